import PyProof.Rows.All
import Wide.All
import OpenK.AllK
import Wide.FinOn
import KE.KStateDown
import Lean
import HandS.ForMost
import HandS.Wide
import HandS.WideBits
import HandS.SortInts
import HandS.FStr
import HandS.IsInst
import HandS.TupAny
import HandS.Exc
import HandS.TryOnly
import HandS.ExcOwn
import HandS.WordsExc
import HandS.Defaults
import HandS.Walk
import HandS.Zip
import HandS.Style
import HandS.Head0
import HandS.Head1
import HandS.Head2
import HandS.HeadEnd
import HandS.HeadHook1
import HandS.HeadHook2
import HandS.HeadHook3
import HandS.HeadHook4
import PySem.Challenge.RW_holdfast_k74_papers_as_texts
set_option Elab.async false
set_option linter.all false
set_option maxRecDepth 100000
set_option maxHeartbeats 4000000
namespace Hf
open PySem PySem.Spec PyProof.Rows L2
/-! ## heaps: what is visible beside some hidden objects -/
abbrev Ext (H H' : Hp) : Prop := ∀ b o, H b = some o → H' b = some o
theorem Ext.refl (H : Hp) : Ext H H := fun _ _ h => h
theorem Ext.trans {H H1 H2 : Hp} (a : Ext H H1) (b : Ext H1 H2) : Ext H H2 := fun c o h => b c o (a c o h)
theorem Ext.trans' {H H1 H2 : Hp} (b : Ext H1 H2) (a : Ext H H1) : Ext H H2 := a.trans b
/-- all but one object stands -/
abbrev But (a : Addr) (H H' : Hp) : Prop := ∀ b o, b ≠ a → H b = some o → H' b = some o
theorem Ext.but {a : Addr} {H H' : Hp} (e : Ext H H') : But a H H' := fun b o _ h => e b o h
theorem But.trans {a : Addr} {H H1 H2 : Hp} (x : But a H H1) (y : But a H1 H2) : But a H H2 := fun c o n h => y c o n (x c o n h)
theorem ext_new {H : Hp} {p : Addr} {o : HO} (h : H p = none) : Ext H (upd H p o) := fun b u e => by
  rw [upd_ne (ne_of_none e h)]; exact e
/-- an object that was not known ahead may change -/
theorem ext_mut {H H' : Hp} {p : Addr} {o : HO} (e : Ext H H') (h : H p = none) : Ext H (upd H' p o) := fun b u hb => by
  rw [upd_ne (ne_of_none hb h)]; exact e b u hb
theorem fresh_back {H H' : Hp} {p : Addr} (e : Ext H H') (h : H' p = none) : H p = none := by
  cases q : H p with
  | none => rfl
  | some o => rw [e p o q] at h; cases h
def vis (M : List Addr) (H : Hp) : Hp := fun b => if b ∈ M then none else H b
theorem vis_nil (H : Hp) : vis [] H = H := by
  funext b; unfold vis; rw [if_neg (by simp)]
theorem vis_out {M : List Addr} {H : Hp} {b : Addr} (h : b ∉ M) : vis M H b = H b := by unfold vis; rw [if_neg h]
theorem vis_some {M : List Addr} {H : Hp} {b : Addr} {o : HO} (h : vis M H b = some o) : b ∉ M ∧ H b = some o := by
  unfold vis at h
  by_cases c : b ∈ M
  · rw [if_pos c] at h; cases h
  · rw [if_neg c] at h; exact ⟨c, h⟩
theorem vis_le (M : List Addr) (H : Hp) : Ext (vis M H) H := fun b o h => (vis_some h).2
theorem vis_mono {M : List Addr} {H H' : Hp} (e : Ext H H') : Ext (vis M H) (vis M H') := fun b o h => by
  obtain ⟨n, q⟩ := vis_some h
  rw [vis_out n]; exact e b o q
theorem vis_sub {M M' : List Addr} {H : Hp} (s : ∀ b ∈ M, b ∈ M') : Ext (vis M' H) (vis M H) := fun b o h => by
  obtain ⟨n, q⟩ := vis_some h
  rw [vis_out fun z => n (s b z)]; exact q
theorem vis_cons (M : List Addr) (H : Hp) (l : Addr) : Ext (vis (l :: M) H) (vis M H) := vis_sub fun _ h => List.mem_cons_of_mem _ h
theorem vis_but {M : List Addr} {H H' : Hp} {a : Addr} (e : But a H H') (h : a ∈ M) : Ext (vis M H) (vis M H') := fun b o q => by
  obtain ⟨n, q⟩ := vis_some q
  rw [vis_out n]; exact e b o (fun z => n (z ▸ h)) q
/-- a new object is hidden from what was known -/
theorem vis_hide {M : List Addr} {H H' : Hp} {l : Addr} (e : Ext H H') (h : H l = none) : Ext (vis M H) (vis (l :: M) H') := fun b o q => by
  obtain ⟨n, q⟩ := vis_some q
  rw [vis_out (by
    intro z
    rcases List.mem_cons.mp z with z | z
    · subst z; rw [h] at q; cases q
    · exact n z)]
  exact e b o q
theorem vis_upd {M : List Addr} {H : Hp} {l : Addr} {o : HO} (h : l ∈ M) : vis M (upd H l o) = vis M H := by
  funext b; unfold vis
  by_cases c : b ∈ M
  · rw [if_pos c, if_pos c]
  · rw [if_neg c, if_neg c, upd_ne fun z => c (by rw [z]; exact h)]
/-- the hidden objects stand -/
def Dom (M : List Addr) (H : Hp) : Prop := ∀ b ∈ M, H b ≠ none
theorem Dom.nil {H : Hp} : Dom [] H := fun _ h => by cases h
theorem some_ne {H : Hp} {b : Addr} {o : HO} (h : H b = some o) : H b ≠ none := by rw [h]; exact fun z => nomatch z
theorem ne_some {H : Hp} {b : Addr} (h : H b ≠ none) : ∃ o, H b = some o := by
  cases e : H b with
  | none => exact absurd e h
  | some o => exact ⟨o, rfl⟩
theorem Dom.ext {M : List Addr} {H H' : Hp} (d : Dom M H) (e : Ext H H') : Dom M H' := fun b hb => by
  obtain ⟨o, h⟩ := ne_some (d b hb)
  exact some_ne (e b o h)
theorem Dom.cons {M : List Addr} {H : Hp} {l : Addr} (d : Dom M H) (h : H l ≠ none) : Dom (l :: M) H := fun b hb => by
  rcases List.mem_cons.mp hb with z | z
  · subst z; exact h
  · exact d b z
theorem Dom.tail {M : List Addr} {H : Hp} {l : Addr} (d : Dom (l :: M) H) : Dom M H := fun b hb => d b (List.mem_cons_of_mem _ hb)
theorem Dom.upd {M : List Addr} {H : Hp} {l : Addr} {o : HO} (d : Dom M H) : Dom M (upd H l o) := fun b hb => by
  by_cases c : b = l
  · subst c; rw [upd_same]; exact fun z => nomatch z
  · rw [upd_ne c]; exact d b hb
theorem Dom.but {M : List Addr} {H H' : Hp} {a : Addr} (d : Dom M H) (e : But a H H') (h : H' a ≠ none) : Dom M H' := fun b hb => by
  by_cases c : b = a
  · subst c; exact h
  · obtain ⟨o, q⟩ := ne_some (d b hb)
    exact some_ne (e b o c q)
theorem Dom.new {M : List Addr} {H : Hp} {p : Addr} (d : Dom M H) (h : H p = none) : p ∉ M := fun z => d p z h
/-! ## data in the heap -/
theorem sql_ext {K : PySem.W.Frag} {G G' : Hp} {a : Addr} {xs : List V} (e : Ext G G') (h : SqL K G a xs) : SqL K G' a xs := by
  rcases h with (h | ⟨o, h⟩) | h
  · exact .inl (.inl (e _ _ h))
  · exact .inl (.inr ⟨o, e _ _ h⟩)
  · exact .inr h
theorem sqt_ext {K : PySem.W.Frag} {G G' : Hp} {a : Addr} {xs : List V} (e : Ext G G') (h : SqT K G a xs) : SqT K G' a xs := by
  rcases h with (h | ⟨o, h⟩) | h
  · exact .inl (.inl (e _ _ h))
  · exact .inl (.inr ⟨o, e _ _ h⟩)
  · exact .inr h
theorem rd_inj {G : Hp} {a : Addr} {u u' : HO} (nf : ∀ o w, u ≠ .frz o w) (nf' : ∀ o w, u' ≠ .frz o w) (h : Rd G a u) (h' : Rd G a u') : u = u' := by
  rcases h with h | ⟨o, h⟩ <;> rcases h' with h' | ⟨o', h'⟩
  · rw [h] at h'; exact Option.some.inj h'
  · rw [h] at h'; exact absurd (Option.some.inj h') (nf _ _)
  · rw [h] at h'; exact absurd (Option.some.inj h').symm (nf' _ _)
  · rw [h] at h'; have := Option.some.inj h'; injection this
mutual
theorem dp_ext {K : PySem.W.Frag} {G G' : Hp} (e : Ext G G') : ∀ {v : V} {d : PyData}, Dp K G v d → Dp K G' v d
  | _, _, .non => .non
  | _, _, .bl b => .bl b
  | _, _, .int i => .int i
  | _, _, .str x => .str x
  | _, _, .lst h r => .lst (sql_ext e h) (dpAll_ext e r)
  | _, _, .tup h r => .tup (sqt_ext e h) (dpAll_ext e r)
theorem dpAll_ext {K : PySem.W.Frag} {G G' : Hp} (e : Ext G G') : ∀ {vs : List V} {ds : List PyData}, DpAll K G vs ds → DpAll K G' vs ds
  | _, _, .nil => .nil
  | _, _, .cons h r => .cons (dp_ext e h) (dpAll_ext e r)
end
section
variable {K : PySem.W.Frag} {G : Hp} {v : V} {vs : List V} {ds : List PyData} {d : PyData}
theorem dp_int {i : Int} (h : Dp K G v (.int i)) : v = .int i := by cases h; rfl
theorem dp_str {x : Str} (h : Dp K G v (.str x)) : v = .str x := by cases h; rfl
theorem dp_bl {x : Bool} (h : Dp K G v (.bool x)) : v = .bl x := by cases h; rfl
theorem dp_non (h : Dp K G v .none) : v = .non := by cases h; rfl
theorem dp_list (h : Dp K G v (.list ds)) : ∃ a vs, v = .ref a ∧ SqL K G a vs ∧ DpAll K G vs ds := by
  cases h with
  | lst h r => exact ⟨_, _, rfl, h, r⟩
theorem dp_tup (h : Dp K G v (.tuple ds)) : ∃ a vs, v = .ref a ∧ SqT K G a vs ∧ DpAll K G vs ds := by
  cases h with
  | tup h r => exact ⟨_, _, rfl, h, r⟩
theorem dpAll_len : ∀ {vs : List V} {ds : List PyData}, DpAll K G vs ds → vs.length = ds.length
  | _, _, .nil => rfl
  | _, _, .cons _ r => by simp [dpAll_len r]
theorem dpAll_get : ∀ {vs : List V} {ds : List PyData} {i : Nat} {d : PyData}, DpAll K G vs ds → ds[i]? = some d → ∃ v, vs[i]? = some v ∧ Dp K G v d
  | _, _, _, _, .nil, e => by simp at e
  | _, _, 0, _, .cons h _, e => by simp at e; subst e; exact ⟨_, rfl, h⟩
  | _, _, i + 1, _, .cons _ r, e => by
    obtain ⟨v, h1, h2⟩ := dpAll_get (i := i) r (by simpa using e)
    exact ⟨v, by simpa using h1, h2⟩
theorem dpAll_get' : ∀ {vs : List V} {ds : List PyData} {i : Nat} {v : V}, DpAll K G vs ds → vs[i]? = some v → ∃ d, ds[i]? = some d ∧ Dp K G v d
  | _, _, _, _, .nil, e => by simp at e
  | _, _, 0, _, .cons h _, e => by simp at e; subst e; exact ⟨_, rfl, h⟩
  | _, _, i + 1, _, .cons _ r, e => by
    obtain ⟨v, h1, h2⟩ := dpAll_get' (i := i) r (by simpa using e)
    exact ⟨v, by simpa using h1, h2⟩
theorem dpAll_append : ∀ {vs us : List V} {ds es : List PyData}, DpAll K G vs ds → DpAll K G us es → DpAll K G (vs ++ us) (ds ++ es)
  | _, _, _, _, .nil, s => s
  | _, _, _, _, .cons h r, s => .cons h (dpAll_append r s)
theorem dpAll_ints : ∀ (ns : List Int), DpAll K G (ns.map V.int) (ns.map PyData.int)
  | [] => .nil
  | n :: r => .cons (.int n) (dpAll_ints r)
theorem dpAll_strs : ∀ (ns : List Str), DpAll K G (ns.map V.str) (ns.map PyData.str)
  | [] => .nil
  | n :: r => .cons (.str n) (dpAll_strs r)
theorem dpAll_bls : ∀ (ns : List Bool), DpAll K G (ns.map V.bl) (ns.map PyData.bool)
  | [] => .nil
  | n :: r => .cons (.bl n) (dpAll_bls r)
theorem ints_of_dp : ∀ {vs : List V} {ns : List Int}, DpAll K G vs (ns.map PyData.int) → vs = ns.map V.int
  | _, [], h => by cases h; rfl
  | _, n :: r, h => by
    cases h with
    | cons h1 h2 => rw [dp_int h1, ints_of_dp h2]; rfl
theorem strs_of_dp : ∀ {vs : List V} {ns : List Str}, DpAll K G vs (ns.map PyData.str) → vs = ns.map V.str
  | _, [], h => by cases h; rfl
  | _, n :: r, h => by
    cases h with
    | cons h1 h2 => rw [dp_str h1, strs_of_dp h2]; rfl
theorem bls_of_dp : ∀ {vs : List V} {ns : List Bool}, DpAll K G vs (ns.map PyData.bool) → vs = ns.map V.bl
  | _, [], h => by cases h; rfl
  | _, n :: r, h => by
    cases h with
    | cons h1 h2 => rw [dp_bl h1, bls_of_dp h2]; rfl
theorem dpAll_take (n : Nat) : ∀ {vs : List V} {ds : List PyData}, DpAll K G vs ds → DpAll K G (vs.take n) (ds.take n) := by
  induction n with
  | zero => intro vs ds _; exact .nil
  | succ n ih =>
    intro vs ds h
    cases h with
    | nil => exact .nil
    | cons h r => exact .cons h (ih r)
theorem dpAll_drop (n : Nat) : ∀ {vs : List V} {ds : List PyData}, DpAll K G vs ds → DpAll K G (vs.drop n) (ds.drop n) := by
  induction n with
  | zero => intro vs ds h; exact h
  | succ n ih =>
    intro vs ds h
    cases h with
    | nil => exact .nil
    | cons h r => exact ih r
end
section
variable {K : PySem.W.Frag} {M : List Addr} {H H' : Hp} {v : V} {d : PyData}
theorem dpx (e : Ext H H') (h : Dp K (vis M H) v d) : Dp K (vis M H') v d := dp_ext (vis_mono e) h
theorem dpb {a : Addr} (e : But a H H') (m : a ∈ M) (h : Dp K (vis M H) v d) : Dp K (vis M H') v d := dp_ext (vis_but e m) h
theorem dpAllx {vs : List V} {ds : List PyData} (e : Ext H H') (h : DpAll K (vis M H) vs ds) : DpAll K (vis M H') vs ds := dpAll_ext (vis_mono e) h
theorem dpAllb {a : Addr} {vs : List V} {ds : List PyData} (e : But a H H') (m : a ∈ M) (h : DpAll K (vis M H) vs ds) : DpAll K (vis M H') vs ds := dpAll_ext (vis_but e m) h
theorem sqlv {a : Addr} {xs : List V} (h : SqL K (vis M H) a xs) : SqL K H a xs := sql_ext (vis_le M H) h
theorem sqtv {a : Addr} {xs : List V} (h : SqT K (vis M H) a xs) : SqT K H a xs := sqt_ext (vis_le M H) h
end
end Hf

namespace Hf
open PySem PySem.Spec PyProof.Rows L2
/-- tells which written part is meant -/
def KTok (K : PySem.W.Frag) : Prop := K = K
/-! ## readings, step by step (what follows is Q) -/
section
variable {K : PySem.W.Frag} {σ : L2.St} {H : Hp} {Q : VK} {v x y : V} {ta tb tc te : TE} {t : TA} {r : R2} {M : List Addr}
theorem w_var {i : Nat} (h : σ[i]? = some (some v)) (q : Q v H) : tVar i σ H Q := ⟨v, h, q⟩
theorem w_c (q : Q v H) : tC v σ H Q := q
theorem w_op (q : ta σ H fun x H1 => tb σ H1 fun y H2 => r x y H2 Q) : tOp r ta tb σ H Q := q
theorem w_un {r : V → Hp → VK → Prop} (q : ta σ H fun x H1 => r x H1 Q) : tUn r ta σ H Q := q
theorem w_I0 {g : Int → Int → V} {i j : Int} (q : Q (g i j) H) : rI0 g (.int i) (.int j) H Q := ⟨i, j, rfl, rfl, q⟩
theorem w_I {C : Int → Int → Prop} {g : Int → Int → V} {i j : Int} (c : C i j) (q : Q (g i j) H) : rI C g (.int i) (.int j) H Q := ⟨i, j, rfl, rfl, c, q⟩
theorem w_U {g : Int → V} {i : Int} (q : Q (g i) H) : rU g (.int i) H Q := ⟨i, rfl, q⟩
theorem w_eq (h : scal x y = true) (q : Q (.bl (decide (x = y))) H) : rEq x y H Q := ⟨h, q⟩
theorem w_ne (h : scal x y = true) (q : Q (.bl (!decide (x = y))) H) : rNe x y H Q := ⟨h, q⟩
theorem w_eqI {i j : Int} (q : Q (.bl (decide (i = j))) H) : rEq (.int i) (.int j) H Q := ⟨rfl, by
  have e : (decide (V.int i = V.int j)) = decide (i = j) := by
    by_cases h : i = j
    · subst h; simp
    · rw [decide_eq_false h, decide_eq_false fun z => h (V.int.inj z)]
  rw [e]; exact q⟩
theorem w_neI {i j : Int} (q : Q (.bl (!decide (i = j))) H) : rNe (.int i) (.int j) H Q := ⟨rfl, by
  have e : (decide (V.int i = V.int j)) = decide (i = j) := by
    by_cases h : i = j
    · subst h; simp
    · rw [decide_eq_false h, decide_eq_false fun z => h (V.int.inj z)]
  rw [e]; exact q⟩
theorem w_eqS {i j : Str} (q : Q (.bl (decide (i = j))) H) : rEq (.str i) (.str j) H Q := ⟨rfl, by
  have e : (decide (V.str i = V.str j)) = decide (i = j) := by
    by_cases h : i = j
    · subst h; simp
    · rw [decide_eq_false h, decide_eq_false fun z => h (V.str.inj z)]
  rw [e]; exact q⟩
theorem w_neS {i j : Str} (q : Q (.bl (!decide (i = j))) H) : rNe (.str i) (.str j) H Q := ⟨rfl, by
  have e : (decide (V.str i = V.str j)) = decide (i = j) := by
    by_cases h : i = j
    · subst h; simp
    · rw [decide_eq_false h, decide_eq_false fun z => h (V.str.inj z)]
  rw [e]; exact q⟩
theorem w_cons {tr : TA} {Q : List V → Hp → Prop} (q : ta σ H fun x H1 => tr σ H1 fun xs H2 => Q (x :: xs) H2) : tCons ta tr σ H Q := q
theorem w_nil {Q : List V → Hp → Prop} (q : Q [] H) : tNil σ H Q := q
theorem w_cb {r : List V → Hp → VK → Prop} (q : t σ H fun vs H1 => r vs H1 Q) : tCB r t σ H Q := q
theorem w_test {Q : Bool → Hp → Prop} (q : te σ H fun x H' => ∃ k, x = .bl k ∧ Q k H') : tTest te σ H Q := q
theorem w_B {Q : Bool → Hp → Prop} (q : te σ H fun x H' => ∃ k, x = .bl k ∧ Q k H') : tB te σ H Q := q
theorem w_bl {b : Bool} {Q : Bool → Hp → Prop} (q : Q b H) : ∃ k, V.bl b = .bl k ∧ Q k H := ⟨b, rfl, q⟩
theorem w_and {tt uu : TT} {Q : Bool → Hp → Prop} (q : tt σ H fun c H1 => if c = true then uu σ H1 Q else Q false H1) : tAnd tt uu σ H Q := q
theorem w_or {tt uu : TT} {Q : Bool → Hp → Prop} (q : tt σ H fun c H1 => if c = true then Q true H1 else uu σ H1 Q) : tOr tt uu σ H Q := q
theorem w_not {tt : TT} {Q : Bool → Hp → Prop} (q : tt σ H fun c H1 => Q (!c) H1) : tNot tt σ H Q := q
theorem w_andV (q : ta σ H fun x H1 => ∃ c, x = .bl c ∧ if c = true then tb σ H1 Q else Q (.bl false) H1) : tAndV ta tb σ H Q := q
theorem w_orV (q : ta σ H fun x H1 => ∃ c, x = .bl c ∧ if c = true then Q (.bl true) H1 else tb σ H1 Q) : tOrV ta tb σ H Q := q
theorem w_notV (q : ta σ H fun x H1 => ∃ c, x = .bl c ∧ Q (.bl (!c)) H1) : tNotV ta σ H Q := q
theorem w_blV {b : Bool} {P : Bool → Prop} (q : P b) : ∃ k, V.bl b = .bl k ∧ P k := ⟨b, rfl, q⟩
theorem w_if {tt : TT} (q : tt σ H fun c H1 => if c = true then ta σ H1 Q else tb σ H1 Q) : tIf tt ta tb σ H Q := q
/-- a test whose answer is open -/
theorem w_ite {p A B : Prop} [Decidable p] (h1 : p → A) (h2 : ¬ p → B) : if decide p = true then A else B := by
  by_cases c : p
  · rw [if_pos (decide_eq_true c)]; exact h1 c
  · rw [if_neg (by rw [decide_eq_false c]; exact Bool.false_ne_true)]; exact h2 c
theorem w_iteN {p A B : Prop} [Decidable p] (h1 : ¬ p → A) (h2 : p → B) : if (!decide p) = true then A else B := by
  by_cases c : p
  · rw [decide_eq_true c]; exact iteF (h2 c)
  · rw [decide_eq_false c]; exact iteT (h1 c)
theorem w_iteB {b : Bool} {A B : Prop} (h1 : b = true → A) (h2 : b = false → B) : if b = true then A else B := by
  cases b with
  | true => exact iteT (h1 rfl)
  | false => exact iteF (h2 rfl)
theorem w_iteNB {b : Bool} {A B : Prop} (h1 : b = false → A) (h2 : b = true → B) : if (!b) = true then A else B := by
  cases b with
  | true => exact iteF (h2 rfl)
  | false => exact iteT (h1 rfl)
theorem w_yes {p A B : Prop} [Decidable p] (c : p) (h : A) : if decide p = true then A else B := w_ite (fun _ => h) fun n => absurd c n
theorem w_no {p A B : Prop} [Decidable p] (c : ¬ p) (h : B) : if decide p = true then A else B := w_ite (fun n => absurd n c) fun _ => h
theorem w_yesN {p A B : Prop} [Decidable p] (c : ¬ p) (h : A) : if (!decide p) = true then A else B := w_iteN (fun _ => h) fun n => absurd n c
theorem w_noN {p A B : Prop} [Decidable p] (c : p) (h : B) : if (!decide p) = true then A else B := w_iteN (fun n => absurd c n) fun _ => h
theorem ite_nT {A B : Prop} (h : B) : if (!true) = true then A else B := iteF h
theorem ite_nF {A B : Prop} (h : A) : if (!false) = true then A else B := iteT h
/-! ### shapes of data -/
def Shp (k : Nat) (d : PyData) : Prop := d.canLay0 = true ∧ d.depth ≤ k
theorem Shp.int {k : Nat} (i : Int) : Shp k (.int i) := ⟨rfl, Nat.zero_le _⟩
theorem Shp.bool {k : Nat} (i : Bool) : Shp k (.bool i) := ⟨rfl, Nat.zero_le _⟩
theorem Shp.none {k : Nat} : Shp k .none := ⟨rfl, Nat.zero_le _⟩
theorem Shp.str {k : Nat} {x : Str} (h : (PyData.str x).canLay0 = true) : Shp k (.str x) := ⟨h, Nat.zero_le _⟩
theorem Shp.all {k : Nat} : ∀ {ds : List PyData}, (∀ d ∈ ds, Shp k d) → PyData.canLayAll0 ds = true ∧ PyData.depthAll ds ≤ k
  | [], _ => ⟨rfl, Nat.zero_le _⟩
  | d :: r, h => by
    obtain ⟨h1, h2⟩ := h d List.mem_cons_self
    obtain ⟨h3, h4⟩ := Shp.all fun x hx => h x (List.mem_cons_of_mem _ hx)
    exact ⟨by rw [PyData.canLayAll0, h1, h3]; rfl, Nat.max_le.mpr ⟨h2, h4⟩⟩
theorem Shp.list {k : Nat} {ds : List PyData} (h : ∀ d ∈ ds, Shp k d) : Shp (k + 1) (.list ds) := ⟨(Shp.all h).1, Nat.succ_le_succ (Shp.all h).2⟩
theorem Shp.tup {k : Nat} {ds : List PyData} (h : ∀ d ∈ ds, Shp k d) : Shp (k + 1) (.tuple ds) := ⟨(Shp.all h).1, Nat.succ_le_succ (Shp.all h).2⟩
theorem Shp.mono {j k : Nat} {d : PyData} (h : Shp j d) (l : j ≤ k) : Shp k d := ⟨h.1, Nat.le_trans h.2 l⟩
theorem Shp.ok {k : Nat} {d : PyData} (h : Shp k d) (l : k ≤ 64) : SeqAt.shaped d = true := Bool.and_eq_true_iff.mpr ⟨h.1, decide_eq_true (Nat.le_trans h.2 l)⟩
/-- a new tuple, a new list -/
def newT (xs : List V) (H : Hp) (Q : VK) : Prop := xs.length ≤ sizeLine ∧ ∀ p, H p = none → Q (.ref p) (upd H p (.tup xs))
def newL (xs : List V) (H : Hp) (Q : VK) : Prop := xs.length ≤ sizeLine ∧ ∀ p, H p = none → Q (.ref p) (upd H p (.lst xs))
theorem w_tup (q : t σ H fun xs H1 => newT xs H1 Q) : tTup t σ H Q := q
theorem w_lst (q : t σ H fun xs H1 => newL xs H1 Q) : tLst t σ H Q := q
theorem sz {n : Nat} (h : n ≤ 100000) : n ≤ sizeLine := Nat.le_trans h (by decide)
theorem szl {n : Nat} (h : n < 100000) : n < sizeLine := Nat.lt_of_lt_of_le h (by decide)
theorem w_newT {xs : List V} {ds : List PyData} (kt : KTok K) (hM : Dom M H) (h : DpAll K (vis M H) xs ds) (hl : xs.length ≤ 100000) (q : ∀ p H', Ext H H' → Dom M H' → Dp K (vis M H') (.ref p) (.tuple ds) → Q (.ref p) H') : newT xs H Q := ⟨sz hl, fun p hp => by
  have e : Ext H (upd H p (.tup xs)) := ext_new hp
  have n := hM.new hp
  refine q p _ e (hM.ext e) (.tup (.inl (.inl ?_)) (dpAllx e h))
  rw [vis_out n, upd_same]⟩
theorem w_newL {xs : List V} {ds : List PyData} (kt : KTok K) (hM : Dom M H) (h : DpAll K (vis M H) xs ds) (hl : xs.length ≤ 100000) (q : ∀ p H', Ext H H' → Dom M H' → Dp K (vis M H') (.ref p) (.list ds) → Q (.ref p) H') : newL xs H Q := ⟨sz hl, fun p hp => by
  have e : Ext H (upd H p (.lst xs)) := ext_new hp
  have n := hM.new hp
  refine q p _ e (hM.ext e) (.lst (.inl (.inl ?_)) (dpAllx e h))
  rw [vis_out n, upd_same]⟩
/-- a new list that will be changed: hidden from now on -/
theorem w_newM {xs : List V} {ds : List PyData} (kt : KTok K) (hM : Dom M H) (h : DpAll K (vis M H) xs ds) (hl : xs.length ≤ 100000) (q : ∀ p H', H p = none → Ext H H' → Dom (p :: M) H' → H' p = some (.lst xs) → DpAll K (vis (p :: M) H') xs ds → Q (.ref p) H') : newL xs H Q := ⟨sz hl, fun p hp => by
  have e : Ext H (upd H p (.lst xs)) := ext_new hp
  refine q p _ hp e ((hM.ext e).cons (some_ne upd_same)) upd_same (dpAll_ext (vis_hide e hp) h)⟩
/-- a new list, raw -/
theorem w_newR {xs : List V} (hl : xs.length ≤ 100000) (q : ∀ p H', H p = none → Ext H H' → H' p = some (.lst xs) → Q (.ref p) H') : newL xs H Q := ⟨sz hl, fun p hp => q p _ hp (ext_new hp) upd_same⟩
theorem w_newTR {xs : List V} (hl : xs.length ≤ 100000) (q : ∀ p H', H p = none → Ext H H' → H' p = some (.tup xs) → Q (.ref p) H') : newT xs H Q := ⟨sz hl, fun p hp => q p _ hp (ext_new hp) upd_same⟩
/-! ### subscripts -/
theorem at_nat {α : Type} {xs : List α} {i : Int} {x : α} (h0 : 0 ≤ i) (h : xs[i.toNat]? = some x) : atI xs i = some x := by
  have e : i = ((i.toNat : Nat) : Int) := by omega
  rw [e]; exact atI_nat h
theorem at_len {α β : Type} {xs : List α} {ys : List β} (e : xs.length = ys.length) {i : Int} {d : β} (h : atI ys i = some d) : ∃ j, ixN xs.length i = some j ∧ ys[j]? = some d := by
  unfold atI at h
  rw [e]
  cases q : ixN ys.length i with
  | none => rw [q] at h; cases h
  | some j => rw [q] at h; exact ⟨j, rfl, h⟩
theorem dp_at {G : Hp} {xs : List V} {ds : List PyData} {i : Int} {d : PyData} (r : DpAll K G xs ds) (h : atI ds i = some d) : ∃ v, atI xs i = some v ∧ Dp K G v d := by
  obtain ⟨j, h1, h2⟩ := at_len (dpAll_len r) h
  obtain ⟨v, h3, h4⟩ := dpAll_get r h2
  refine ⟨v, ?_, h4⟩
  unfold atI
  rw [h1]; exact h3
theorem w_ixL {a : V} {ds : List PyData} {i : Int} {d : PyData} (h : Dp K (vis M H) a (.list ds)) (g : atI ds i = some d) (q : ∀ v, Dp K (vis M H) v d → Q v H) : rIxL K a (.int i) H Q := by
  obtain ⟨p, vs, rfl, h1, h2⟩ := dp_list h
  obtain ⟨v, h3, h4⟩ := dp_at h2 g
  exact ⟨p, vs, i, v, rfl, rfl, sqlv h1, h3, q v h4⟩
theorem w_ixT {a : V} {ds : List PyData} {i : Int} {d : PyData} (h : Dp K (vis M H) a (.tuple ds)) (g : atI ds i = some d) (q : ∀ v, Dp K (vis M H) v d → Q v H) : rIxT K a (.int i) H Q := by
  obtain ⟨p, vs, rfl, h1, h2⟩ := dp_tup h
  obtain ⟨v, h3, h4⟩ := dp_at h2 g
  exact ⟨p, vs, i, v, rfl, rfl, sqtv h1, h3, q v h4⟩
/-- a raw list -/
theorem w_ixR {p : Addr} {xs : List V} {i : Int} (h : H p = some (.lst xs)) (g : atI xs i = some v) (q : Q v H) : rIxL K (.ref p) (.int i) H Q := ⟨p, xs, i, v, rfl, rfl, .inl (.inl h), g, q⟩
theorem w_ixS {z : Str} {i : Int} {c : Nat} (hl : z.length ≤ 100000) (g : atI z.cps.toList i = some c) (q : Q (.str ⟨#[c]⟩) H) : rIxS (.str z) (.int i) H Q := ⟨z, i, c, rfl, rfl, sz hl, g, q⟩
theorem len_dp {a : V} {ds : List PyData} (h : Dp K (vis M H) a (.list ds) ∨ Dp K (vis M H) a (.tuple ds)) : ∃ p ys, a = .ref p ∧ (SqL K H p ys ∨ SqT K H p ys) ∧ ys.length = ds.length ∧ DpAll K (vis M H) ys ds := by
  rcases h with h | h
  · obtain ⟨p, vs, rfl, h1, h2⟩ := dp_list h
    exact ⟨p, vs, rfl, .inl (sqlv h1), dpAll_len h2, h2⟩
  · obtain ⟨p, vs, rfl, h1, h2⟩ := dp_tup h
    exact ⟨p, vs, rfl, .inr (sqtv h1), dpAll_len h2, h2⟩
/-! ### the built-ins' readings, by name -/
def rLenQ (K : PySem.W.Frag) : List V → Hp → VK → Prop := fun xs H Q => ∃ p ys, xs = [.ref p] ∧ (SqL K H p ys ∨ SqT K H p ys) ∧ Q (.int ys.length) H
def rLenZ : List V → Hp → VK → Prop := fun xs H Q => ∃ z, xs = [.str z] ∧ z.length ≤ sizeLine ∧ Q (.int z.length) H
def rAbsI : List V → Hp → VK → Prop := fun xs H Q => ∃ i, xs = [.int i] ∧ Q (.int (if i < 0 then -i else i)) H
def rMaxI : List V → Hp → VK → Prop := fun xs H Q => ∃ i j, xs = [.int i, .int j] ∧ Q (.int (if j > i then j else i)) H
def rMinI : List V → Hp → VK → Prop := fun xs H Q => ∃ i j, xs = [.int i, .int j] ∧ Q (.int (if j < i then j else i)) H
def rIntI : List V → Hp → VK → Prop := fun xs H Q => (∃ i, xs = [.int i] ∧ Q (.int i) H) ∨ ∃ k, xs = [.bl k] ∧ Q (.int (if k then 1 else 0)) H
def rStrI : List V → Hp → VK → Prop := fun xs H Q => ∃ i, xs = [.int i] ∧ i.natAbs.log2 < 1920 ∧ Q (.str (toString i)) H
def rIntZ : List V → Hp → VK → Prop := fun xs H Q => ∃ a n, xs = [.str a] ∧ PySem.intText? a = some n ∧ a.length ≤ 640 ∧ Q (.int n) H
def rListO (K : PySem.W.Frag) : List V → Hp → VK → Prop := fun xs H Q => ∃ p ys, xs = [.ref p] ∧ (SqL K H p ys ∨ SqT K H p ys) ∧ ∀ l, H l = none → Q (.ref l) (upd H l (.lst ys))
def rTupO (K : PySem.W.Frag) : List V → Hp → VK → Prop := fun xs H Q => ∃ p ys, xs = [.ref p] ∧ ((SqL K H p ys ∧ ∀ l, H l = none → Q (.ref l) (upd H l (.tup ys))) ∨ (SqT K H p ys ∧ Q (.ref p) H))
def rAddZ : R2 := fun x y H Q => ∃ i j, x = .str i ∧ y = .str j ∧ i.length + j.length ≤ sizeLine ∧ Q (.str (i ++ j)) H
def rInSg : R2 := fun x y H Q => ∃ (c : Nat) (z : Str), x = .str ⟨#[c]⟩ ∧ y = .str z ∧ Q (.bl (decide (c ∈ z.cps.toList))) H
def rNiSg : R2 := fun x y H Q => ∃ (c : Nat) (z : Str), x = .str ⟨#[c]⟩ ∧ y = .str z ∧ Q (.bl (!decide (c ∈ z.cps.toList))) H
def rIsNn : R2 := fun x y H Q => y = .non ∧ Q (.bl (decide (x = .non))) H
def rNoNn : R2 := fun x y H Q => y = .non ∧ Q (.bl (!decide (x = .non))) H
def rSplitZ : V → List V → Hp → VK → Prop := fun x xs H Q => ∃ a b, x = .str a ∧ xs = [.str b] ∧ (b.length == 0) = false ∧ a.length + 2 ≤ sizeLine ∧ rNewStrs (Txt.split a b) H Q
def rPartZ : V → List V → Hp → VK → Prop := fun x xs H Q => ∃ a b, x = .str a ∧ xs = [.str b] ∧ (b.length == 0) = false ∧ a.length ≤ sizeLine ∧
  ∀ p, H p = none → Q (.ref p) (upd H p (.tup [.str (Txt.partition a b).1, .str (Txt.partition a b).2.1, .str (Txt.partition a b).2.2]))
def rJoinZ (K : PySem.W.Frag) : V → List V → Hp → VK → Prop := fun x xs H Q => ∃ a p, ∃ ys : List Str, x = .str a ∧ xs = [.ref p] ∧ (SqL K H p (ys.map V.str) ∨ SqT K H p (ys.map V.str)) ∧
  (ys.map (·.length)).sum + ys.length * a.length ≤ 16777216 ∧ Q (.str (Txt.join a ys)) H
section
variable {X : Cx}
theorem cn_len : CallR X (.builtin "len") (rLenQ X.K) := call_len_seq
theorem cn_lenZ : CallR X (.builtin "len") rLenZ := call_len_str
theorem cn_abs : CallR X (.builtin "abs") rAbsI := call_abs
theorem cn_max (hc : X.calm = true) : CallR X (.builtin "max") rMaxI := call_max2 hc
theorem cn_min (hc : X.calm = true) : CallR X (.builtin "min") rMinI := call_min2 hc
theorem cn_int : CallR X (.type "int") rIntI := call_int1
theorem cn_str : CallR X (.type "str") rStrI := call_str_int
theorem cn_intZ : CallR X (.type "int") rIntZ := call_int_str
theorem cn_list : CallR X (.type "list") (rListO X.K) := call_list_of
theorem cn_tuple : CallR X (.type "tuple") (rTupO X.K) := call_tuple_of
theorem on_addZ : OpR X (binaryOp .Add) rAddZ := op_add_str
theorem on_inSg : OpR X (compareOp .In) rInSg := op_in_sign
theorem on_niSg : OpR X (compareOp .NotIn) rNiSg := op_notIn_sign
theorem on_isN : OpR X (compareOp .Is) rIsNn := op_isN
theorem on_noN : OpR X (compareOp .IsNot) rNoNn := op_notN
variable {o e : Expr} {to te : TE}
theorem pn_split {apos pos : Pos} (ho : PE X o to) (he : PE X e te) (hs : starEach [e] X.env = [(false, eval e X.env)] := by rfl) (hb : attributeBase o "split" X.env (eval o X.env) = eval o X.env := by rfl) (hl : (apos.endLine == pos.line) = true := by rfl) :
    PE X (.Call (.Attribute o "split" apos) [e] [] pos) (tM1 rSplitZ to te) := pe_split ho he hs hb hl
theorem pn_part {apos pos : Pos} (ho : PE X o to) (he : PE X e te) (hs : starEach [e] X.env = [(false, eval e X.env)] := by rfl) (hb : attributeBase o "partition" X.env (eval o X.env) = eval o X.env := by rfl) (hl : (apos.endLine == pos.line) = true := by rfl) :
    PE X (.Call (.Attribute o "partition" apos) [e] [] pos) (tM1 rPartZ to te) := pe_partition ho he hs hb hl
theorem pn_join {apos pos : Pos} (ho : PE X o to) (he : PE X e te) (hs : starEach [e] X.env = [(false, eval e X.env)] := by rfl) (hb : attributeBase o "join" X.env (eval o X.env) = eval o X.env := by rfl) (hl : (apos.endLine == pos.line) = true := by rfl) :
    PE X (.Call (.Attribute o "join" apos) [e] [] pos) (tM1 (rJoinZ X.K) to te) := pe_join ho he hs hb hl
end
theorem w_m1 {r : V → List V → Hp → VK → Prop} {to : TE} (q : to σ H fun x H1 => (∃ a, x = .str a) ∧ te σ H1 fun y H2 => r x [y] H2 Q) : tM1 r to te σ H Q := q
theorem w_isS {a : Str} {P : Prop} (q : P) : (∃ b, V.str a = .str b) ∧ P := ⟨⟨a, rfl⟩, q⟩
theorem w_lenL {a : V} {ds : List PyData} (h : Dp K (vis M H) a (.list ds)) (q : Q (.int (ds.length : Int)) H) : rLenQ K [a] H Q := by
  obtain ⟨p, ys, rfl, h1, h2, _⟩ := len_dp (.inl h)
  exact ⟨p, ys, rfl, h1, by rw [h2]; exact q⟩
theorem w_lenT {a : V} {ds : List PyData} (h : Dp K (vis M H) a (.tuple ds)) (q : Q (.int (ds.length : Int)) H) : rLenQ K [a] H Q := by
  obtain ⟨p, ys, rfl, h1, h2, _⟩ := len_dp (.inr h)
  exact ⟨p, ys, rfl, h1, by rw [h2]; exact q⟩
theorem w_lenZ {z : Str} (hl : z.length ≤ 100000) (q : Q (.int (z.length : Int)) H) : rLenZ [.str z] H Q := ⟨z, rfl, sz hl, q⟩
theorem w_lenR {p : Addr} {xs : List V} (h : SqL K H p xs) (q : Q (.int (xs.length : Int)) H) : rLenQ K [.ref p] H Q := ⟨p, xs, rfl, .inl h, q⟩
theorem w_abs {i : Int} (q : Q (.int (if i < 0 then -i else i)) H) : rAbsI [.int i] H Q := ⟨i, rfl, q⟩
theorem w_max {i j : Int} (q : Q (.int (if j > i then j else i)) H) : rMaxI [.int i, .int j] H Q := ⟨i, j, rfl, q⟩
theorem w_min {i j : Int} (q : Q (.int (if j < i then j else i)) H) : rMinI [.int i, .int j] H Q := ⟨i, j, rfl, q⟩
theorem w_intI {i : Int} (q : Q (.int i) H) : rIntI [.int i] H Q := .inl ⟨i, rfl, q⟩
theorem w_intB {b : Bool} (q : Q (.int (if b = true then 1 else 0)) H) : rIntI [.bl b] H Q := .inr ⟨b, rfl, q⟩
theorem w_strI {i : Int} (h : i.natAbs.log2 < 1920) (q : Q (.str (toString i)) H) : rStrI [.int i] H Q := ⟨i, rfl, h, q⟩
theorem w_intZ {a : Str} {n : Int} (h : PySem.intText? a = some n) (hl : a.length ≤ 640) (q : Q (.int n) H) : rIntZ [.str a] H Q := ⟨a, n, rfl, h, hl, q⟩
theorem w_addZ {i j : Str} (h : i.length + j.length ≤ 100000) (q : Q (.str (i ++ j)) H) : rAddZ (.str i) (.str j) H Q := ⟨i, j, rfl, rfl, sz h, q⟩
theorem w_inSg {c : Nat} {z : Str} (q : Q (.bl (decide (c ∈ z.cps.toList))) H) : rInSg (.str ⟨#[c]⟩) (.str z) H Q := ⟨c, z, rfl, rfl, q⟩
theorem w_niSg {c : Nat} {z : Str} (q : Q (.bl (!decide (c ∈ z.cps.toList))) H) : rNiSg (.str ⟨#[c]⟩) (.str z) H Q := ⟨c, z, rfl, rfl, q⟩
theorem w_isNn {x : V} (q : Q (.bl (decide (x = .non))) H) : rIsNn x .non H Q := ⟨rfl, q⟩
theorem w_noNn {x : V} (q : Q (.bl (!decide (x = .non))) H) : rNoNn x .non H Q := ⟨rfl, q⟩
theorem w_split {a b : Str} (kt : KTok K) (hM : Dom M H) (hb : (b.length == 0) = false) (ha : a.length ≤ 100000) (q : ∀ p H', Ext H H' → Dom M H' → Dp K (vis M H') (.ref p) (.list ((Txt.split a b).map PyData.str)) → Q (.ref p) H') : rSplitZ (.str a) [.str b] H Q := by
  refine ⟨a, b, rfl, rfl, hb, Nat.le_trans (Nat.add_le_add_right ha 2) (by decide), fun p hp => ?_⟩
  have e : Ext H (upd H p (.lst ((Txt.split a b).map V.str))) := ext_new hp
  refine q p _ e (hM.ext e) (.lst (.inl (.inl ?_)) (dpAll_strs _))
  rw [vis_out (hM.new hp), upd_same]
theorem w_partZ {a b : Str} (kt : KTok K) (hM : Dom M H) (hb : (b.length == 0) = false) (ha : a.length ≤ 100000)
    (q : ∀ p H', Ext H H' → Dom M H' → Dp K (vis M H') (.ref p) (.tuple [.str (Txt.partition a b).1, .str (Txt.partition a b).2.1, .str (Txt.partition a b).2.2]) → Q (.ref p) H') : rPartZ (.str a) [.str b] H Q := by
  refine ⟨a, b, rfl, rfl, hb, sz ha, fun p hp => ?_⟩
  have e : Ext H (upd H p (.tup [.str (Txt.partition a b).1, .str (Txt.partition a b).2.1, .str (Txt.partition a b).2.2])) := ext_new hp
  refine q p _ e (hM.ext e) (.tup (.inl (.inl ?_)) (.cons (.str _) (.cons (.str _) (.cons (.str _) .nil))))
  rw [vis_out (hM.new hp), upd_same]
theorem w_join {a : Str} {x : V} (ys : List Str) (h : Dp K (vis M H) x (.list (ys.map PyData.str))) (hl : (ys.map (·.length)).sum + ys.length * a.length ≤ 16777216) (q : Q (.str (Txt.join a ys)) H) : rJoinZ K (.str a) [x] H Q := by
  obtain ⟨p, vs, rfl, h1, h2⟩ := dp_list h
  cases strs_of_dp h2
  exact ⟨a, p, ys, rfl, rfl, .inl (sqlv h1), hl, q⟩
/-- tuple(x) of a list -/
theorem w_tupL {a : V} {ds : List PyData} (hM : Dom M H) (h : Dp K (vis M H) a (.list ds)) (q : ∀ p H', Ext H H' → Dom M H' → Dp K (vis M H') (.ref p) (.tuple ds) → Q (.ref p) H') : rTupO K [a] H Q := by
  obtain ⟨p, ys, rfl, h1, h2⟩ := dp_list h
  refine ⟨p, ys, rfl, .inl ⟨sqlv h1, fun l hl => ?_⟩⟩
  have e : Ext H (upd H l (.tup ys)) := ext_new hl
  refine q l _ e (hM.ext e) (.tup (.inl (.inl ?_)) (dpAllx e h2))
  rw [vis_out (hM.new hl), upd_same]
/-- == of data -/
theorem w_eqD {x y : V} {d e : PyData} (h : Dp K (vis M H) x d) (h' : Dp K (vis M H) y e) (s1 : SeqAt.shaped d = true) (s2 : SeqAt.shaped e = true) (q : Q (.bl (PyData.eqv d e)) H) : rEqD K x y H Q :=
  ⟨d, e, dp_ext (vis_le M H) h, dp_ext (vis_le M H) h', s1, s2, q⟩
theorem w_neD {x y : V} {d e : PyData} (h : Dp K (vis M H) x d) (h' : Dp K (vis M H) y e) (s1 : SeqAt.shaped d = true) (s2 : SeqAt.shaped e = true) (q : Q (.bl (!PyData.eqv d e)) H) : rNeD K x y H Q :=
  ⟨d, e, dp_ext (vis_le M H) h, dp_ext (vis_le M H) h', s1, s2, q⟩
theorem w_eqSame {x y : V} {d : PyData} {k : Nat} (h : Dp K (vis M H) x d) (h' : Dp K (vis M H) y d) (s : Shp k d) (l : k ≤ 64) (q : Q (.bl true) H) : rEqD K x y H Q := w_eqD h h' (s.ok l) (s.ok l) (by rw [SeqAt.eqv_refl d s.1]; exact q)
theorem w_neSame {x y : V} {d : PyData} {k : Nat} (h : Dp K (vis M H) x d) (h' : Dp K (vis M H) y d) (s : Shp k d) (l : k ≤ 64) (q : Q (.bl false) H) : rNeD K x y H Q := w_neD h h' (s.ok l) (s.ok l) (by rw [SeqAt.eqv_refl d s.1]; exact q)
/-! ### slices -/
theorem w_sl {r : V → Option Int → Option Int → Hp → VK → Prop} {tl th : TO} (q : te σ H fun x H1 => tl σ H1 fun l H2 => th σ H2 fun u H3 => r x l u H3 Q) : tSl r te tl th σ H Q := q
theorem w_noPart {Q : Option Int → Hp → Prop} (q : Q none H) : tNoPart σ H Q := q
theorem w_part {Q : Option Int → Hp → Prop} (q : te σ H fun x H1 => ∃ i, x = .int i ∧ Q (some i) H1) : tPart te σ H Q := q
theorem w_int1 {i : Int} {P : Int → Prop} (q : P i) : ∃ j, V.int i = .int j ∧ P j := ⟨i, rfl, q⟩
def cutD {α : Type} (xs : List α) (lo hi : Option Int) : List α := (xs.drop (HT.sIx xs.length 0 lo)).take (HT.sIx xs.length xs.length hi - HT.sIx xs.length 0 lo)
theorem dp_cut {G : Hp} {xs : List V} {ds : List PyData} (r : DpAll K G xs ds) (lo hi : Option Int) : DpAll K G (cutV xs lo hi) (cutD ds lo hi) := by
  unfold cutV cutD
  rw [dpAll_len r]
  exact dpAll_take _ (dpAll_drop _ r)
theorem w_slL {a : V} {ds : List PyData} {lo hi : Option Int} (hM : Dom M H) (h : Dp K (vis M H) a (.list ds)) (q : ∀ p H', Ext H H' → Dom M H' → Dp K (vis M H') (.ref p) (.list (cutD ds lo hi)) → Q (.ref p) H') : rSlL K a lo hi H Q := by
  obtain ⟨a', vs, rfl, h1, h2⟩ := dp_list h
  refine ⟨a', vs, rfl, sqlv h1, fun p hp => ?_⟩
  have e : Ext H (upd H p (.lst (cutV vs lo hi))) := ext_new hp
  refine q p _ e (hM.ext e) (.lst (.inl (.inl ?_)) (dpAllx e (dp_cut h2 lo hi)))
  rw [vis_out (hM.new hp), upd_same]
theorem cutD_from {α : Type} (xs : List α) (n : Nat) : cutD xs (some (n : Int)) none = xs.drop n := by
  unfold cutD
  rw [HT.sIx_nat, HT.sIx_none]
  by_cases h : n ≤ xs.length
  · rw [Nat.min_eq_left h]
    exact List.take_of_length_le (by rw [List.length_drop]; omega)
  · rw [Nat.min_eq_right (by omega), List.drop_of_length_le (Nat.le_refl _), List.drop_of_length_le (by omega)]
    exact List.take_nil
theorem cutD_to {α : Type} (xs : List α) (n : Nat) : cutD xs none (some (n : Int)) = xs.take n := by
  unfold cutD
  rw [HT.sIx_nat, HT.sIx_none]
  simp only [List.drop_zero, Nat.sub_zero]
  by_cases h : n ≤ xs.length
  · rw [Nat.min_eq_left h]
  · rw [Nat.min_eq_right (by omega), List.take_of_length_le (Nat.le_refl _), List.take_of_length_le (by omega)]
/-! ### in, not in over flat things -/
theorem w_inL {neg : Bool} {p : Addr} {xs : List V} (h : SqL K H p xs ∨ SqT K H p xs) (hx : flatV x = true) (hf : xs.all flatV = true) (q : Q (.bl (if neg then !inV x xs else inV x xs)) H) : rIn K neg x (.ref p) H Q := ⟨p, xs, rfl, h, hx, hf, q⟩
/-! ### list + list, extend, append of raw lists -/
theorem w_bm {T : String} {r : V → List V → Hp → VK → Prop} {to : TE} (q : to σ H fun x H1 => tyV K T x H1 ∧ t σ H1 fun xs H2 => r x xs H2 Q) : tBM K T r to t σ H Q := q
theorem w_bm0 {T : String} {r : V → List V → Hp → VK → Prop} {to : TE} (q : to σ H fun x H1 => tyV K T x H1 ∧ r x [] H1 Q) : tBM0 K T r to σ H Q := q
theorem ty_lst {p : Addr} {xs : List V} (h : H p = some (.lst xs)) : tyV K "list" (.ref p) H := .inl ⟨rfl, _, .inl (.inl h)⟩
theorem w_app {l : Addr} {xs : List V} (h : H l = some (.lst xs)) (hz : xs.length < 100000) (q : Q .non (upd H l (.lst (xs ++ [y])))) : rAppend (.ref l) [y] H Q := ⟨l, xs, y, rfl, rfl, h, szl hz, q⟩
/-- a list object of the heap and what it holds -/
def Lst (K : PySem.W.Frag) (M : List Addr) (H : Hp) (D : Addr) (ds : List PyData) : Prop := D ∉ M ∧ ∃ acc, H D = some (.lst acc) ∧ DpAll K (vis M H) acc ds
theorem w_catD {ds es : List PyData} {p p' : Addr} (hM : Dom M H) (h1 : Lst K M H p ds) (h2 : Lst K M H p' es) (hz : ds.length + es.length ≤ 100000)
    (q : ∀ p H', Ext H H' → Dom M H' → Lst K M H' p (ds ++ es) → Q (.ref p) H') : rCat (.ref p) (.ref p') H Q := by
  obtain ⟨_, xs, h1, r1⟩ := h1
  obtain ⟨_, zs, h2, r2⟩ := h2
  have e1 := dpAll_len r1
  have e2 := dpAll_len r2
  refine ⟨p, p', xs, zs, rfl, rfl, h1, h2, sz (by omega), fun l hl => ?_⟩
  have e : Ext H (upd H l (.lst (xs ++ zs))) := ext_new hl
  exact q l _ e (hM.ext e) ⟨hM.new hl, _, upd_same, dpAllx e (dpAll_append r1 r2)⟩
/-- list(x) -/
theorem w_listD {a : V} {ds : List PyData} (hM : Dom M H) (h : Dp K (vis M H) a (.list ds) ∨ Dp K (vis M H) a (.tuple ds)) (q : ∀ p H', Ext H H' → Dom M H' → H p = none → Lst K M H' p ds → Q (.ref p) H') : rListO K [a] H Q := by
  obtain ⟨p, ys, rfl, h1, _, h2⟩ := len_dp h
  refine ⟨p, ys, rfl, h1, fun l hl => ?_⟩
  have e : Ext H (upd H l (.lst ys)) := ext_new hl
  exact q l _ e (hM.ext e) hl ⟨hM.new hl, _, upd_same, dpAllx e h2⟩
theorem w_listT {a : V} {ds : List PyData} (hM : Dom M H) (h : Dp K (vis M H) a (.tuple ds)) (q : ∀ p H', Ext H H' → Dom M H' → H p = none → Lst K M H' p ds → Q (.ref p) H') : rListO K [a] H Q := w_listD hM (.inr h) q
theorem w_listL {a : V} {ds : List PyData} (hM : Dom M H) (h : Dp K (vis M H) a (.list ds)) (q : ∀ p H', Ext H H' → Dom M H' → H p = none → Lst K M H' p ds → Q (.ref p) H') : rListO K [a] H Q := w_listD hM (.inl h) q
theorem dpAll_rep {G : Hp} {vs : List V} {ds : List PyData} (h : DpAll K G vs ds) : ∀ k : Nat, DpAll K G (List.replicate k vs).flatten (List.replicate k ds).flatten
  | 0 => .nil
  | k + 1 => by
    rw [List.replicate_succ, List.replicate_succ, List.flatten_cons, List.flatten_cons]
    exact dpAll_append h (dpAll_rep h k)
theorem w_repD {ds : List PyData} {p : Addr} {k : Nat} (hM : Dom M H) (h1 : Lst K M H p ds) (hk : k < 100000) (hz : ds.length * k ≤ 100000)
    (q : ∀ p H', Ext H H' → Dom M H' → Lst K M H' p (List.replicate k ds).flatten → Q (.ref p) H') : rRep (.ref p) (.int (k : Int)) H Q := by
  obtain ⟨_, xs, h1, r1⟩ := h1
  have e1 := dpAll_len r1
  refine ⟨p, k, xs, rfl, rfl, h1, by omega, by omega, sz (by rw [Int.toNat_natCast, e1]; exact hz), fun l hl => ?_⟩
  rw [Int.toNat_natCast]
  have e : Ext H (upd H l (.lst (List.replicate k xs).flatten)) := ext_new hl
  exact q l _ e (hM.ext e) ⟨hM.new hl, _, upd_same, dpAllx e (dpAll_rep r1 k)⟩
theorem w_newLst {xs : List V} {ds : List PyData} (kt : KTok K) (hM : Dom M H) (h : DpAll K (vis M H) xs ds) (hl : xs.length ≤ 100000) (q : ∀ p H', Ext H H' → Dom M H' → Lst K M H' p ds → Q (.ref p) H') : newL xs H Q := ⟨sz hl, fun p hp => by
  have e : Ext H (upd H p (.lst xs)) := ext_new hp
  exact q p _ e (hM.ext e) ⟨hM.new hp, _, upd_same, dpAllx e h⟩⟩
end
/-! ## statements -/
section
variable {K : PySem.W.Frag} {σ : L2.St} {H : Hp} {D : Ends} {te tl : TE} {u t w : TS} {v : V} {M : List Addr}
theorem s_asg {i : Nat} (q : te σ H fun x H1 => u D (σ.set i (some x)) H1) : tSeq (tAsg te (gName i)) u D σ H := q
theorem s_asgG {g : TG} (q : te σ H fun x H1 => g x σ H1 (u D)) : tSeq (tAsg te g) u D σ H := q
theorem s_asg1 {i : Nat} {nx : L2.St → Hp → Prop} {rt bk ct} (q : te σ H fun x H1 => nx (σ.set i (some x)) H1) : tAsg te (gName i) ⟨nx, rt, bk, ct⟩ σ H := q
theorem s_asgG1 {g : TG} {nx : L2.St → Hp → Prop} {rt bk ct} (q : te σ H fun x H1 => g x σ H1 nx) : tAsg te g ⟨nx, rt, bk, ct⟩ σ H := q
theorem s_par {i j : Nat} {ta : TA} (q : ta σ H fun vs H1 => ∃ v w, vs = [v, w] ∧ u D ((σ.set i (some v)).set j (some w)) H1) : tSeq (tPar i j ta) u D σ H := q
theorem s_par2 {v w : V} {P : V → V → Prop} (q : P v w) : ∃ a b, [v, w] = [a, b] ∧ P a b := ⟨v, w, rfl, q⟩
theorem s_drop (q : te σ H fun _ H1 => u D σ H1) : tSeq (tDrop te) u D σ H := q
theorem s_drop1 {nx : L2.St → Hp → Prop} {rt bk ct} (q : te σ H fun _ H1 => nx σ H1) : tDrop te ⟨nx, rt, bk, ct⟩ σ H := q
theorem s_ret {nx : L2.St → Hp → Prop} {rt : VK} {bk ct} (q : te σ H rt) : tRet te ⟨nx, rt, bk, ct⟩ σ H := q
theorem s_retN {nx : L2.St → Hp → Prop} {rt : VK} {bk ct} (q : rt .non H) : tRetN ⟨nx, rt, bk, ct⟩ σ H := q
theorem s_retS {nx : L2.St → Hp → Prop} {rt : VK} {bk ct} (q : te σ H rt) : tSeq (tRet te) u ⟨nx, rt, bk, ct⟩ σ H := q
theorem s_next {nx : L2.St → Hp → Prop} {rt bk ct} (q : nx σ H) : tNext ⟨nx, rt, bk, ct⟩ σ H := q
theorem s_nextS (q : u D σ H) : tSeq tNext u D σ H := q
theorem s_seq {nx : L2.St → Hp → Prop} {rt bk ct} (q : t ⟨u ⟨nx, rt, bk, ct⟩, rt, bk, ct⟩ σ H) : tSeq t u ⟨nx, rt, bk, ct⟩ σ H := q
theorem s_if {c : TT} {nx : L2.St → Hp → Prop} {rt bk ct} (q : c σ H fun b H1 => if b = true then t ⟨u ⟨nx, rt, bk, ct⟩, rt, bk, ct⟩ σ H1 else w ⟨u ⟨nx, rt, bk, ct⟩, rt, bk, ct⟩ σ H1) : tSeq (tIfS c t w) u ⟨nx, rt, bk, ct⟩ σ H := q
theorem s_if1 {c : TT} (q : c σ H fun b H1 => if b = true then t D σ H1 else w D σ H1) : tIfS c t w D σ H := q
theorem s_brk {nx : L2.St → Hp → Prop} {rt bk ct} (q : bk σ H) : tBreak ⟨nx, rt, bk, ct⟩ σ H := q
theorem s_cnt {nx : L2.St → Hp → Prop} {rt bk ct} (q : ct σ H) : tCont ⟨nx, rt, bk, ct⟩ σ H := q
/-- a for, from the iterator on -/
def forW (J : It) (g : TG) (tb : TS) (rt : VK) (nx : L2.St → Hp → Prop) (σ : L2.St) (H : Hp) : Prop := ∃ W : Nat → Nat → L2.St → Hp → Prop, (∃ m, W 0 m σ H) ∧ ∀ i m σ H, W i m σ H →
  (J.stop i H ∧ nx σ H) ∨ (J.go i H ∧ ∃ N : L2.St → Hp → Prop, (∀ σ' H', N σ' H' → ∃ m', m' < m ∧ W (i + 1) m' σ' H') ∧ ∀ x H', J.yld i H x H' → g x σ H' fun σ2 H2 => tb ⟨N, rt, nx, N⟩ σ2 H2)
theorem s_for {wi : TI} {g : TG} {tb : TS} {nx : L2.St → Hp → Prop} {rt bk ct} (q : wi σ H fun J H1 => forW J g tb rt (u ⟨nx, rt, bk, ct⟩) σ H1) : tSeq (tFor wi g tb) u ⟨nx, rt, bk, ct⟩ σ H := q
theorem s_for1 {wi : TI} {g : TG} {tb : TS} {nx : L2.St → Hp → Prop} {rt bk ct} (q : wi σ H fun J H1 => forW J g tb rt nx σ H1) : tFor wi g tb ⟨nx, rt, bk, ct⟩ σ H := q
theorem f_it {J : It} {n : Nat} {G : Hp → Prop} {Y : Nat → Hp → V → Hp → Prop} {g : TG} {tb : TS} {rt : VK} {nx : L2.St → Hp → Prop} (W : Walk J n G Y) (Pv : Nat → L2.St → Hp → Prop) (h0 : Pv 0 σ H) (hG : ∀ i σ H, i ≤ n → Pv i σ H → G H)
    (hs : ∀ i x σ H H', i < n → Pv i σ H → Y i H x H' → g x σ H' fun σ2 H2 => tb ⟨Pv (i + 1), rt, nx, Pv (i + 1)⟩ σ2 H2) (hd : ∀ σ H, Pv n σ H → nx σ H) : forW J g tb rt nx σ H :=
  for_it (D := ⟨nx, rt, nx, nx⟩) W Pv h0 hG hs hd
/-- over a list of data that stands -/
theorem f_L {α : Type} {a : Addr} {xs : List V} {g : TG} {tb : TS} {rt : VK} {nx : L2.St → Hp → Prop} (l : List α) (enc : α → PyData) (hL : SqL K (vis M H) a xs) (hds : DpAll K (vis M H) xs (l.map enc)) (Pv : Nat → L2.St → Hp → Prop) (h0 : Pv 0 σ H) (hG : ∀ i σ H', i ≤ l.length → Pv i σ H' → Ext (vis M H) (vis M H'))
    (hs : ∀ i z x σ H', l[i]? = some z → Pv i σ H' → Dp K (vis M H') x (enc z) → g x σ H' fun σ2 H2 => tb ⟨Pv (i + 1), rt, nx, Pv (i + 1)⟩ σ2 H2) (hd : ∀ σ H, Pv l.length σ H → nx σ H) : forW (Itl K a) g tb rt nx σ H := by
  have hlen : xs.length = l.length := by rw [dpAll_len hds, List.length_map]
  refine f_it (walk_list (K := K) (a := a) (xs := xs)) Pv h0 (fun i σ H' hi p => sql_ext (vis_le M H') (sql_ext (hG i σ H' (by omega) p) hL)) ?_ (by rw [hlen]; exact hd)
  intro i x σ' H1 H2 hi p hy
  obtain ⟨rfl, hx⟩ := hy
  have hl : i < l.length := by omega
  have hz : l[i]? = some l[i] := List.getElem?_eq_getElem hl
  obtain ⟨v, h1, h2⟩ := dpAll_get (i := i) (d := enc l[i]) hds (by rw [List.getElem?_map, hz]; rfl)
  rw [hx] at h1
  have h1 := Option.some.inj h1
  subst h1
  exact hs i l[i] x σ' H2 hz p (dp_ext (hG i σ' H2 (by omega) p) h2)
/-- over a range -/
theorem f_R {lo : Int} {n : Nat} {g : TG} {tb : TS} {rt : VK} {nx : L2.St → Hp → Prop} (Pv : Nat → L2.St → Hp → Prop) (h0 : Pv 0 σ H)
    (hs : ∀ (i : Nat) σ H', i < n → Pv i σ H' → g (.int (lo + (i : Int))) σ H' fun σ2 H2 => tb ⟨Pv (i + 1), rt, nx, Pv (i + 1)⟩ σ2 H2) (hd : ∀ σ H, Pv n σ H → nx σ H) : forW (Itr lo n) g tb rt nx σ H := by
  refine f_it (walk_range (lo := lo) (n := n)) Pv h0 (fun _ _ _ _ _ => trivial) ?_ hd
  intro i x σ' H1 H2 hi p hy
  obtain ⟨rfl, rfl⟩ := hy
  exact hs i σ' H2 hi p
/-- over enumerate of a list of data that stands -/
theorem f_E {α : Type} {a : Addr} {xs : List V} {g : TG} {tb : TS} {rt : VK} {nx : L2.St → Hp → Prop} (l : List α) (enc : α → PyData) (hL : SqL K (vis M H) a xs) (hds : DpAll K (vis M H) xs (l.map enc)) (Pv : Nat → L2.St → Hp → Prop) (h0 : Pv 0 σ H) (hG : ∀ i σ H', i ≤ l.length → Pv i σ H' → Ext (vis M H) (vis M H'))
    (hs : ∀ i z x T σ H1 H', l[i]? = some z → Pv i σ H1 → Ext H1 H' → H1 T = none → SqT K H' T [.int (i : Nat), x] → Dp K (vis M H') x (enc z) → g (.ref T) σ H' fun σ2 H2 => tb ⟨Pv (i + 1), rt, nx, Pv (i + 1)⟩ σ2 H2) (hd : ∀ σ H, Pv l.length σ H → nx σ H) : forW (Ite K a) g tb rt nx σ H := by
  have hlen : xs.length = l.length := by rw [dpAll_len hds, List.length_map]
  refine f_it (walk_enum (K := K) (a := a) (xs := xs)) Pv h0 (fun i σ H' hi p => sql_ext (vis_le M H') (sql_ext (hG i σ H' (by omega) p) hL)) ?_ (by rw [hlen]; exact hd)
  intro i x σ' H1 H2 hi p hy
  obtain ⟨T, u, y, rfl, hT, rfl, hu, hx⟩ := hy
  cases hu
  have hl : i < l.length := by omega
  have hz : l[i]? = some l[i] := List.getElem?_eq_getElem hl
  obtain ⟨v, h1, h2⟩ := dpAll_get (i := i) (d := enc l[i]) hds (by rw [List.getElem?_map, hz]; rfl)
  have hx : xs[i]? = some y := hx
  rw [hx] at h1
  have h1 := Option.some.inj h1
  subst h1
  exact hs i l[i] y T σ' H1 _ hz p (ext_new hT) hT (.inl (.inl upd_same)) (dpx (ext_new hT) (dp_ext (hG i σ' H1 (by omega) p) h2))
/-! ### targets -/
theorem g_name {i : Nat} {Q : L2.St → Hp → Prop} (q : Q (σ.set i (some v)) H) : gName i v σ H Q := q
theorem g_raw2 {i j : Nat} {a : Addr} {v1 v2 : V} {Q : L2.St → Hp → Prop} (h : SqT K H a [v1, v2]) (q : Q ((σ.set i (some v1)).set j (some v2)) H) :
    gTup K 2 (gCons (gName i) (gCons (gName j) gNil)) (.ref a) σ H Q := ⟨a, _, rfl, h, rfl, _, _, rfl, _, _, rfl, rfl, q⟩
theorem g_tup2 {i j : Nat} {d1 d2 : PyData} {x : V} {Q : L2.St → Hp → Prop} (h : Dp K (vis M H) x (.tuple [d1, d2])) (q : ∀ v1 v2, Dp K (vis M H) v1 d1 → Dp K (vis M H) v2 d2 → Q ((σ.set i (some v1)).set j (some v2)) H) :
    gTup K 2 (gCons (gName i) (gCons (gName j) gNil)) x σ H Q := by
  obtain ⟨a, vs, rfl, h1, h2⟩ := dp_tup h
  cases h2 with
  | cons r1 h2 =>
    cases h2 with
    | cons r2 h2 =>
      cases h2
      exact g_raw2 (sqtv h1) (q _ _ r1 r2)
theorem g_tup3 {i j k : Nat} {d1 d2 d3 : PyData} {x : V} {Q : L2.St → Hp → Prop} (h : Dp K (vis M H) x (.tuple [d1, d2, d3])) (q : ∀ v1 v2 v3, Dp K (vis M H) v1 d1 → Dp K (vis M H) v2 d2 → Dp K (vis M H) v3 d3 → Q (((σ.set i (some v1)).set j (some v2)).set k (some v3)) H) :
    gTup K 3 (gCons (gName i) (gCons (gName j) (gCons (gName k) gNil))) x σ H Q := by
  obtain ⟨a, vs, rfl, h1, h2⟩ := dp_tup h
  cases h2 with
  | cons r1 h2 =>
    cases h2 with
    | cons r2 h2 =>
      cases h2 with
      | cons r3 h2 =>
        cases h2
        exact ⟨a, _, rfl, sqtv h1, rfl, _, _, rfl, _, _, rfl, _, _, rfl, rfl, q _ _ _ r1 r2 r3⟩
end
/-! ### what is walked -/
section
variable {K : PySem.W.Frag} {σ : L2.St} {H : Hp} {M : List Addr} {R : It → Hp → Prop} {tl : TE} {ta : TA}
def iListR (K : PySem.W.Frag) (x : V) (H : Hp) (R : It → Hp → Prop) : Prop := ∃ a, x = .ref a ∧ (∃ xs, SqL K H a xs) ∧ R (Itl K a) H
def iTupR (K : PySem.W.Frag) (x : V) (H : Hp) (R : It → Hp → Prop) : Prop := ∃ a, x = .ref a ∧ (∃ xs, SqT K H a xs) ∧ R (Itt K a) H
def iStrR (x : V) (H : Hp) (R : It → Hp → Prop) : Prop := ∃ z, x = .str z ∧ R (Its z) H
def iRngR (vs : List V) (H : Hp) (R : It → Hp → Prop) : Prop := ∃ j : Int, vs = [.int j] ∧ -(2 ^ 62) ≤ j ∧ j < 2 ^ 62 ∧ R (Itr 0 j.toNat) H
def iRng2R (vs : List V) (H : Hp) (R : It → Hp → Prop) : Prop := ∃ i j : Int, vs = [.int i, .int j] ∧ (-(2 ^ 62) ≤ i ∧ i < 2 ^ 62 ∧ -(2 ^ 62) ≤ j ∧ j < 2 ^ 62) ∧ R (Itr i (j - i).toNat) H
def iEnumR (K : PySem.W.Frag) (vs : List V) (H : Hp) (R : It → Hp → Prop) : Prop := ∃ a xs, vs = [.ref a] ∧ SqL K H a xs ∧ R (Ite K a) H
def iZipR (K : PySem.W.Frag) (vs : List V) (H : Hp) (R : It → Hp → Prop) : Prop := ∃ a b xs ys, vs = [.ref a, .ref b] ∧ SqL K H a xs ∧ SqL K H b ys ∧ R (Itz K a b) H
theorem i_list (q : tl σ H fun x H1 => iListR K x H1 R) : iList K tl σ H R := q
theorem i_tup (q : tl σ H fun x H1 => iTupR K x H1 R) : iTup K tl σ H R := q
theorem i_str (q : tl σ H fun v H1 => iStrR v H1 R) : iStr tl σ H R := q
theorem i_rng1 (q : ta σ H fun vs H1 => iRngR vs H1 R) : iRng1 ta σ H R := q
theorem i_rng2 (q : ta σ H fun vs H1 => iRng2R vs H1 R) : iRng2 ta σ H R := q
theorem i_enum (q : ta σ H fun vs H1 => iEnumR K vs H1 R) : iEnum K ta σ H R := q
theorem i_zip (q : ta σ H fun vs H1 => iZipR K vs H1 R) : iZip K ta σ H R := q
theorem i_listD {x : V} {ds : List PyData} (h : Dp K (vis M H) x (.list ds)) (q : ∀ a xs, x = .ref a → SqL K (vis M H) a xs → DpAll K (vis M H) xs ds → R (Itl K a) H) : iListR K x H R := by
  obtain ⟨a, xs, rfl, h1, h2⟩ := dp_list h
  exact ⟨a, rfl, ⟨xs, sqlv h1⟩, q a xs rfl h1 h2⟩
theorem i_tupD {x : V} {ds : List PyData} (h : Dp K (vis M H) x (.tuple ds)) (q : ∀ a xs, x = .ref a → SqT K (vis M H) a xs → DpAll K (vis M H) xs ds → R (Itt K a) H) : iTupR K x H R := by
  obtain ⟨a, xs, rfl, h1, h2⟩ := dp_tup h
  exact ⟨a, rfl, ⟨xs, sqtv h1⟩, q a xs rfl h1 h2⟩
theorem i_strD {x : Str} (q : R (Its x) H) : iStrR (.str x) H R := ⟨x, rfl, q⟩
theorem i_rng1D {n : Int} (h0 : -(2 ^ 62) ≤ n) (h1 : n < 2 ^ 62) (q : R (Itr 0 n.toNat) H) : iRngR [.int n] H R := ⟨n, rfl, h0, h1, q⟩
theorem i_rng2D {a n : Int} (h : -(2 ^ 62) ≤ a ∧ a < 2 ^ 62 ∧ -(2 ^ 62) ≤ n ∧ n < 2 ^ 62) (q : R (Itr a (n - a).toNat) H) : iRng2R [.int a, .int n] H R := ⟨a, n, rfl, h, q⟩
theorem i_enumD {x : V} {ds : List PyData} (h : Dp K (vis M H) x (.list ds)) (q : ∀ a xs, x = .ref a → SqL K (vis M H) a xs → DpAll K (vis M H) xs ds → R (Ite K a) H) : iEnumR K [x] H R := by
  obtain ⟨a, xs, rfl, h1, h2⟩ := dp_list h
  exact ⟨a, xs, rfl, sqlv h1, q a xs rfl h1 h2⟩
theorem i_zipD {x y : V} {ds es : List PyData} (h : Dp K (vis M H) x (.list ds)) (h' : Dp K (vis M H) y (.list es)) (q : ∀ a b xs ys, x = .ref a → y = .ref b → SqL K (vis M H) a xs → SqL K (vis M H) b ys → DpAll K (vis M H) xs ds → DpAll K (vis M H) ys es → R (Itz K a b) H) :
    iZipR K [x, y] H R := by
  obtain ⟨a, xs, rfl, h1, h2⟩ := dp_list h
  obtain ⟨b, ys, rfl, h3, h4⟩ := dp_list h'
  exact ⟨a, b, xs, ys, rfl, sqlv h1, sqlv h3, q a b xs ys rfl rfl h1 h3 h2 h4⟩
end
/-! ### comprehensions over data -/
theorem Lst.dp {K : PySem.W.Frag} {M : List Addr} {H : Hp} {D : Addr} {ds : List PyData} (h : Lst K M H D ds) : Dp K (vis M H) (.ref D) (.list ds) := by
  obtain ⟨n, acc, h1, h2⟩ := h
  exact .lst (.inl (.inl (by rw [vis_out n]; exact h1))) h2
theorem Lst.ext {K : PySem.W.Frag} {M : List Addr} {H H' : Hp} {D : Addr} {ds : List PyData} (h : Lst K M H D ds) (e : Ext H H') : Lst K M H' D ds := by
  obtain ⟨n, acc, h1, h2⟩ := h
  exact ⟨n, acc, e _ _ h1, dpAllx e h2⟩
theorem Lst.ext' {K : PySem.W.Frag} {M : List Addr} {H H' : Hp} {D : Addr} {ds : List PyData} (e : Ext H H') (h : Lst K M H D ds) : Lst K M H' D ds := h.ext e
section
variable {K : PySem.W.Frag} {σ : L2.St} {H H1 : Hp} {M : List Addr} {Q : VK} {g : TG} {tt : TT} {te : TE} {vsl : List Nat} {wi : TI}
/-- a comprehension, from the iterator on -/
def lcW (J : It) (g : TG) (tt : TT) (te : TE) (vsl : List Nat) (σ : L2.St) (H1 : Hp) (Q : VK) : Prop := ∀ D, H1 D = none → ∃ W : Nat → Nat → Hp → Prop, (∃ m, W 0 m (upd H1 D (.lst []))) ∧ ∀ i m H, W i m H →
  (J.stop i H ∧ Q (.ref D) H) ∨ (J.go i H ∧ ∃ Nx : Hp → Prop, (∀ H', Nx H' → ∃ m', m' < m ∧ W (i + 1) m' H') ∧ ∀ x H', J.yld i H x H' → g x (wipe σ vsl) H' fun σ2 H2 => wipe σ2 vsl = wipe σ vsl ∧ tt σ2 H2 fun b H3 =>
    if b = true then te σ2 H3 fun y H4 => ∃ acc, H4 D = some (.lst acc) ∧ acc.length < sizeLine ∧ Nx (upd H4 D (.lst (acc ++ [y]))) else Nx H3)
theorem w_lc (q : wi σ H fun J H1 => lcW J g tt te vsl σ H1 Q) : tLc wi g tt te vsl σ H Q := q
/-- n turns; what the i-th gives is f i; nothing else is changed -/
theorem lc_core' {J : It} {n : Nat} {G : Hp → Prop} {Y : Nat → Hp → V → Hp → Prop} (W : Walk J n G Y) (f : Nat → Option PyData) (hn : n < 100000) (hM : Dom M H1) (hG : ∀ H2, Ext H1 H2 → G H2)
    (turn : ∀ (D : Addr) (i : Nat) (x : V) (H2 H3 : Hp), i < n → Ext H1 H2 → Dom (D :: M) H2 → H1 D = none → Y i H2 x H3 → ∀ (Ky : V → Hp → Prop) (Kn : Hp → Prop),
      (∀ y H' d, f i = some d → Ext H2 H' → Dp K (vis (D :: M) H') y d → Ky y H') → (f i = none → ∀ H', Ext H2 H' → Kn H') →
      g x (wipe σ vsl) H3 fun σ2 H4 => wipe σ2 vsl = wipe σ vsl ∧ tt σ2 H4 fun b H5 => if b = true then te σ2 H5 Ky else Kn H5)
    (q : ∀ D H', Ext H1 H' → Dom M H' → H1 D = none → Lst K M H' D ((List.range n).filterMap f) → Q (.ref D) H') :
    lcW (J) g tt te vsl σ H1 Q := by
  intro D hD
  have hDM : D ∉ M := hM.new hD
  refine lc_it W (fun i H => ∃ acc, H D = some (.lst acc) ∧ Ext H1 H ∧ acc.length ≤ i ∧ DpAll K (vis (D :: M) H) acc ((List.range i).filterMap f)) ⟨[], upd_same, ext_new hD, Nat.le_refl _, .nil⟩ (fun i H _ ⟨_, _, e, _⟩ => hG H e) ?_ ?_
  · intro i x H2 H3 hi ⟨acc, h1, h2, h3, h4⟩ hy
    have dm : Dom (D :: M) H2 := (hM.ext h2).cons (some_ne h1)
    refine turn D i x H2 H3 hi h2 dm hD hy _ _ (fun y H' d hf e hd => ⟨acc, e _ _ h1, szl (by omega), acc ++ [y], upd_same, ext_mut (h2.trans e) hD, by rw [List.length_append]; show acc.length + 1 ≤ i + 1; omega, ?_⟩) (fun hf H' e => ⟨acc, e _ _ h1, h2.trans e, by omega, ?_⟩)
    · rw [vis_upd List.mem_cons_self, List.range_succ, List.filterMap_append]
      refine dpAll_append (dpAllx e h4) ?_
      simp only [List.filterMap_cons, List.filterMap_nil, hf]
      exact .cons hd .nil
    · rw [List.range_succ, List.filterMap_append]
      simp only [List.filterMap_cons, List.filterMap_nil, hf, List.append_nil]
      exact dpAllx e h4
  · intro H ⟨acc, h1, h2, h3, h4⟩
    exact q D H h2 (hM.ext h2) hD ⟨hDM, acc, h1, dpAll_ext (vis_cons M H D) h4⟩
theorem range_filterMap {α β : Type} (f : α → Option β) : ∀ (ds : List α), (List.range ds.length).filterMap (fun i => ds[i]?.bind f) = ds.filterMap f
  | [] => rfl
  | a :: r => by
    rw [List.length_cons, List.range_succ_eq_map, List.filterMap_cons, List.filterMap_map]
    have ih := range_filterMap f r
    have e : ((fun i => (a :: r)[i]?.bind f) ∘ Nat.succ) = fun i => r[i]?.bind f := by
      funext i; simp
    rw [e, ih, List.filterMap_cons]
    simp
/-- over a list of data: l by its items' data -/
theorem lc_L {α : Type} {a : Addr} {xs : List V} (l : List α) (enc : α → PyData) (f : α → Option PyData) (hn : l.length < 100000) (hM : Dom M H1) (hL : SqL K (vis M H1) a xs) (hds : DpAll K (vis M H1) xs (l.map enc))
    (turn : ∀ (D : Addr) (i : Nat) (z : α) (x : V) (H2 : Hp), l[i]? = some z → Ext H1 H2 → Dom (D :: M) H2 → H1 D = none → Dp K (vis (D :: M) H2) x (enc z) → ∀ (Ky : V → Hp → Prop) (Kn : Hp → Prop),
      (∀ y H' d, f z = some d → Ext H2 H' → Dp K (vis (D :: M) H') y d → Ky y H') → (f z = none → ∀ H', Ext H2 H' → Kn H') →
      g x (wipe σ vsl) H2 fun σ2 H4 => wipe σ2 vsl = wipe σ vsl ∧ tt σ2 H4 fun b H5 => if b = true then te σ2 H5 Ky else Kn H5)
    (q : ∀ D H', Ext H1 H' → Dom M H' → H1 D = none → Lst K M H' D (l.filterMap f) → Q (.ref D) H') :
    lcW (Itl K a) g tt te vsl σ H1 Q := by
  have hlen : xs.length = l.length := by rw [dpAll_len hds, List.length_map]
  refine lc_core' (M := M) (K := K) (walk_list (K := K) (a := a) (xs := xs)) (fun i => l[i]?.bind f) (by omega) hM (fun H2 e => sql_ext e (sqlv hL)) ?_ ?_
  · intro D i x H2 H3 hi e dm hD hy Ky Kn k1 k2
    obtain ⟨rfl, hx⟩ := hy
    have hl : i < l.length := by omega
    have hz : l[i]? = some l[i] := List.getElem?_eq_getElem hl
    obtain ⟨v, h1, h2⟩ := dpAll_get (i := i) (d := enc l[i]) hds (by rw [List.getElem?_map, hz]; rfl)
    rw [hx] at h1
    have h1 := Option.some.inj h1
    subst h1
    refine turn D i l[i] x H3 hz e dm hD (dp_ext (vis_hide e hD) h2) Ky Kn (fun y H' d hf => k1 y H' d (by rw [hz]; exact hf)) (fun hf => k2 (by rw [hz]; exact hf))
  · intro D H' e dm hD hd
    rw [hlen, range_filterMap] at hd
    exact q D H' e dm hD hd
/-- over a tuple of data: l by its items' data -/
theorem lc_T {α : Type} {a : Addr} {xs : List V} (l : List α) (enc : α → PyData) (f : α → Option PyData) (hn : l.length < 100000) (hM : Dom M H1) (hL : SqT K (vis M H1) a xs) (hds : DpAll K (vis M H1) xs (l.map enc))
    (turn : ∀ (D : Addr) (i : Nat) (z : α) (x : V) (H2 : Hp), l[i]? = some z → Ext H1 H2 → Dom (D :: M) H2 → H1 D = none → Dp K (vis (D :: M) H2) x (enc z) → ∀ (Ky : V → Hp → Prop) (Kn : Hp → Prop),
      (∀ y H' d, f z = some d → Ext H2 H' → Dp K (vis (D :: M) H') y d → Ky y H') → (f z = none → ∀ H', Ext H2 H' → Kn H') →
      g x (wipe σ vsl) H2 fun σ2 H4 => wipe σ2 vsl = wipe σ vsl ∧ tt σ2 H4 fun b H5 => if b = true then te σ2 H5 Ky else Kn H5)
    (q : ∀ D H', Ext H1 H' → Dom M H' → H1 D = none → Lst K M H' D (l.filterMap f) → Q (.ref D) H') :
    lcW (Itt K a) g tt te vsl σ H1 Q := by
  have hlen : xs.length = l.length := by rw [dpAll_len hds, List.length_map]
  refine lc_core' (M := M) (K := K) (walk_tup (K := K) (a := a) (xs := xs)) (fun i => l[i]?.bind f) (by omega) hM (fun H2 e => sqt_ext e (sqtv hL)) ?_ ?_
  · intro D i x H2 H3 hi e dm hD hy Ky Kn k1 k2
    obtain ⟨rfl, hx⟩ := hy
    have hl : i < l.length := by omega
    have hz : l[i]? = some l[i] := List.getElem?_eq_getElem hl
    obtain ⟨v, h1, h2⟩ := dpAll_get (i := i) (d := enc l[i]) hds (by rw [List.getElem?_map, hz]; rfl)
    rw [hx] at h1
    have h1 := Option.some.inj h1
    subst h1
    refine turn D i l[i] x H3 hz e dm hD (dp_ext (vis_hide e hD) h2) Ky Kn (fun y H' d hf => k1 y H' d (by rw [hz]; exact hf)) (fun hf => k2 (by rw [hz]; exact hf))
  · intro D H' e dm hD hd
    rw [hlen, range_filterMap] at hd
    exact q D H' e dm hD hd
/-- over a range -/
theorem lc_R {lo : Int} {n : Nat} (f : Int → Option PyData) (hn : n < 100000) (hM : Dom M H1)
    (turn : ∀ (D : Addr) (i : Nat) (H2 : Hp), i < n → Ext H1 H2 → Dom (D :: M) H2 → H1 D = none → ∀ (Ky : V → Hp → Prop) (Kn : Hp → Prop),
      (∀ y H' d, f (lo + i) = some d → Ext H2 H' → Dp K (vis (D :: M) H') y d → Ky y H') → (f (lo + i) = none → ∀ H', Ext H2 H' → Kn H') →
      g (.int (lo + i)) (wipe σ vsl) H2 fun σ2 H4 => wipe σ2 vsl = wipe σ vsl ∧ tt σ2 H4 fun b H5 => if b = true then te σ2 H5 Ky else Kn H5)
    (q : ∀ D H', Ext H1 H' → Dom M H' → H1 D = none → Lst K M H' D ((List.range n).filterMap fun i => f (lo + (i : Nat))) → Q (.ref D) H') :
    lcW (Itr lo n) g tt te vsl σ H1 Q := by
  refine lc_core' (M := M) (K := K) (walk_range (lo := lo) (n := n)) (fun i => f (lo + (i : Nat))) hn hM (fun _ _ => trivial) ?_ q
  intro D i x H2 H3 hi e dm hD hy Ky Kn k1 k2
  obtain ⟨rfl, rfl⟩ := hy
  exact turn D i H3 hi e dm hD Ky Kn k1 k2
/-- over a text's signs -/
theorem lc_S {z : Str} (f : Nat → Option PyData) (hn : z.length < 100000) (hM : Dom M H1)
    (turn : ∀ (D : Addr) (i c : Nat) (H2 : Hp), z.cps.toList[i]? = some c → Ext H1 H2 → Dom (D :: M) H2 → H1 D = none → ∀ (Ky : V → Hp → Prop) (Kn : Hp → Prop),
      (∀ y H' d, f c = some d → Ext H2 H' → Dp K (vis (D :: M) H') y d → Ky y H') → (f c = none → ∀ H', Ext H2 H' → Kn H') →
      g (.str ⟨#[c]⟩) (wipe σ vsl) H2 fun σ2 H4 => wipe σ2 vsl = wipe σ vsl ∧ tt σ2 H4 fun b H5 => if b = true then te σ2 H5 Ky else Kn H5)
    (q : ∀ D H', Ext H1 H' → Dom M H' → H1 D = none → Lst K M H' D (z.cps.toList.filterMap f) → Q (.ref D) H') :
    lcW (Its z) g tt te vsl σ H1 Q := by
  refine lc_core' (M := M) (K := K) (walk_str (z := z)) (fun i => z.cps.toList[i]?.bind f) hn hM (fun _ _ => trivial) ?_ ?_
  · intro D i x H2 H3 hi e dm hD hy Ky Kn k1 k2
    obtain ⟨rfl, c, hc, rfl⟩ := hy
    have hz : z.cps.toList[i]? = some c := by simpa using hc
    exact turn D i c H3 hz e dm hD Ky Kn (fun y H' d hf => k1 y H' d (by rw [hz]; exact hf)) (fun hf => k2 (by rw [hz]; exact hf))
  · intro D H' e dm hD hd
    have e1 : z.cps.size = z.cps.toList.length := by simp
    rw [e1, range_filterMap] at hd
    exact q D H' e dm hD hd
/-! total ones -/
theorem fm_map {α β : Type} (f : α → β) : ∀ l : List α, l.filterMap (fun x => some (f x)) = l.map f
  | [] => rfl
  | a :: r => by rw [List.filterMap_cons, List.map_cons, fm_map f r]
theorem w_tyes {Q : Bool → Hp → Prop} (q : Q true H) : tYes σ H Q := q
theorem lm_L {α β : Type} {a : Addr} {xs : List V} (l : List α) (enc : α → PyData) (h : α → β) (enc' : β → PyData) (hn : l.length < 100000) (hM : Dom M H1) (hL : SqL K (vis M H1) a xs) (hds : DpAll K (vis M H1) xs (l.map enc))
    (turn : ∀ (D : Addr) (i : Nat) (z : α) (x : V) (H2 : Hp), l[i]? = some z → Ext H1 H2 → Dom (D :: M) H2 → H1 D = none → Dp K (vis (D :: M) H2) x (enc z) → ∀ (Ky : V → Hp → Prop),
      (∀ y H', Ext H2 H' → Dp K (vis (D :: M) H') y (enc' (h z)) → Ky y H') → g x (wipe σ vsl) H2 fun σ2 H4 => wipe σ2 vsl = wipe σ vsl ∧ te σ2 H4 Ky)
    (q : ∀ D H', Ext H1 H' → Dom M H' → H1 D = none → Lst K M H' D ((l.map h).map enc') → Q (.ref D) H') : lcW (Itl K a) g tYes te vsl σ H1 Q := by
  refine lc_L (K := K) (M := M) l enc (fun z => some (enc' (h z))) hn hM hL hds (fun D i z x H2 hz e dm hD hd Ky Kn k1 k2 => ?_) (fun D H' e dm hD hd => ?_)
  · exact turn D i z x H2 hz e dm hD hd Ky fun y H' e' hd' => k1 y H' _ rfl e' hd'
  · rw [fm_map] at hd
    exact q D H' e dm hD (by rw [List.map_map]; exact hd)
theorem lm_T {α β : Type} {a : Addr} {xs : List V} (l : List α) (enc : α → PyData) (h : α → β) (enc' : β → PyData) (hn : l.length < 100000) (hM : Dom M H1) (hL : SqT K (vis M H1) a xs) (hds : DpAll K (vis M H1) xs (l.map enc))
    (turn : ∀ (D : Addr) (i : Nat) (z : α) (x : V) (H2 : Hp), l[i]? = some z → Ext H1 H2 → Dom (D :: M) H2 → H1 D = none → Dp K (vis (D :: M) H2) x (enc z) → ∀ (Ky : V → Hp → Prop),
      (∀ y H', Ext H2 H' → Dp K (vis (D :: M) H') y (enc' (h z)) → Ky y H') → g x (wipe σ vsl) H2 fun σ2 H4 => wipe σ2 vsl = wipe σ vsl ∧ te σ2 H4 Ky)
    (q : ∀ D H', Ext H1 H' → Dom M H' → H1 D = none → Lst K M H' D ((l.map h).map enc') → Q (.ref D) H') : lcW (Itt K a) g tYes te vsl σ H1 Q := by
  refine lc_T (K := K) (M := M) l enc (fun z => some (enc' (h z))) hn hM hL hds (fun D i z x H2 hz e dm hD hd Ky Kn k1 k2 => ?_) (fun D H' e dm hD hd => ?_)
  · exact turn D i z x H2 hz e dm hD hd Ky fun y H' e' hd' => k1 y H' _ rfl e' hd'
  · rw [fm_map] at hd
    exact q D H' e dm hD (by rw [List.map_map]; exact hd)
theorem lm_R {β : Type} {lo : Int} {n : Nat} (h : Int → β) (enc' : β → PyData) (hn : n < 100000) (hM : Dom M H1)
    (turn : ∀ (D : Addr) (i : Nat) (H2 : Hp), i < n → Ext H1 H2 → Dom (D :: M) H2 → H1 D = none → ∀ (Ky : V → Hp → Prop),
      (∀ y H', Ext H2 H' → Dp K (vis (D :: M) H') y (enc' (h (lo + i))) → Ky y H') → g (.int (lo + i)) (wipe σ vsl) H2 fun σ2 H4 => wipe σ2 vsl = wipe σ vsl ∧ te σ2 H4 Ky)
    (q : ∀ D H', Ext H1 H' → Dom M H' → H1 D = none → Lst K M H' D (((List.range n).map fun i => h (lo + (i : Nat))).map enc') → Q (.ref D) H') : lcW (Itr lo n) g tYes te vsl σ H1 Q := by
  refine lc_R (K := K) (M := M) (fun z => some (enc' (h z))) hn hM (fun D i H2 hi e dm hD Ky Kn k1 k2 => ?_) (fun D H' e dm hD hd => ?_)
  · exact turn D i H2 hi e dm hD Ky fun y H' e' hd' => k1 y H' _ rfl e' hd'
  · rw [fm_map] at hd
    exact q D H' e dm hD (by rw [List.map_map]; exact hd)
theorem lm_S {β : Type} {z : Str} (h : Nat → β) (enc' : β → PyData) (hn : z.length < 100000) (hM : Dom M H1)
    (turn : ∀ (D : Addr) (i c : Nat) (H2 : Hp), z.cps.toList[i]? = some c → Ext H1 H2 → Dom (D :: M) H2 → H1 D = none → ∀ (Ky : V → Hp → Prop),
      (∀ y H', Ext H2 H' → Dp K (vis (D :: M) H') y (enc' (h c)) → Ky y H') → g (.str ⟨#[c]⟩) (wipe σ vsl) H2 fun σ2 H4 => wipe σ2 vsl = wipe σ vsl ∧ te σ2 H4 Ky)
    (q : ∀ D H', Ext H1 H' → Dom M H' → H1 D = none → Lst K M H' D ((z.cps.toList.map h).map enc') → Q (.ref D) H') : lcW (Its z) g tYes te vsl σ H1 Q := by
  refine lc_S (K := K) (M := M) (fun c => some (enc' (h c))) hn hM (fun D i c H2 hc e dm hD Ky Kn k1 k2 => ?_) (fun D H' e dm hD hd => ?_)
  · exact turn D i c H2 hc e dm hD Ky fun y H' e' hd' => k1 y H' _ rfl e' hd'
  · rw [fm_map] at hd
    exact q D H' e dm hD (by rw [List.map_map]; exact hd)
end
end Hf

namespace Hf
open PySem PySem.Spec PyProof.Rows L2
/-! ## rules of our own -/
section
variable {X : Cx} {a b c d : Expr} {ta tb tc td : TE} {pos : Pos}
/-- a op b op' c op'' d -/
def tChain3 (r r' r'' : R2) (ta tb tc td : TE) : TE := fun σ H Q => ta σ H fun x H1 => tb σ H1 fun y H2 => r x y H2 fun z H3 => ∃ k, z = .bl k ∧
  (if k = true then tc σ H3 fun y' H4 => r' y y' H4 fun z' H5 => ∃ k', z' = .bl k' ∧ (if k' = true then td σ H5 fun y'' H6 => r'' y' y'' H6 Q else Q (.bl false) H5) else Q (.bl false) H3)
theorem pe_chain3 {op op' op'' : CmpOp} {r r' r'' : R2} (ho : OpR X (compareOp op) r) (ho' : OpR X (compareOp op') r') (ho'' : OpR X (compareOp op'') r'') (ha : PE X a ta) (hb : PE X b tb) (hc : PE X c tc) (hd : PE X d td)
    (hm : lastMarks [op, op', op''] [b, c, d] = false := by with_unfolding_all rfl) : PE X (.Compare a [op, op', op''] [b, c, d] pos) (tChain3 r r' r'' ta tb tc td) := by
  refine ⟨fun pins s σ H Q I h => ?_⟩
  refine Compare_chain (thn (ha.run pins s σ H _ I h) fun v s1 hx => ?_) hm
  obtain ⟨x, H1, I1, r1, q1⟩ := hx
  refine chain_link (thn (hb.run pins s1 σ H1 _ I1 q1) fun u s2 hy => ?_)
  obtain ⟨y, H2, I2, r2, q2⟩ := hy
  refine thn (ho pins s2 σ H2 x y v u _ I2 r1 r2 q2) fun e s3 hz => ?_
  obtain ⟨z, H3, I3, r3, k, ez, q3⟩ := hz
  subst ez
  cases r3
  refine wpAny_truthy_bool ?_
  cases k with
  | false => exact ite_ff ⟨.bl false, H3, I3, rfl, q3⟩
  | true =>
    refine ite_tt (chain_link (thn (hc.run pins s3 σ H3 _ I3 q3) fun w4 s4 h4 => ?_))
    obtain ⟨y', H4, I4, r4, q4⟩ := h4
    refine thn (ho' pins s4 σ H4 y y' u w4 _ I4 r2 r4 q4) fun e5 s5 h5 => ?_
    obtain ⟨z', H5, I5, r5, k', ez', q5⟩ := h5
    subst ez'
    cases r5
    refine wpAny_truthy_bool ?_
    cases k' with
    | false => exact ite_ff ⟨.bl false, H5, I5, rfl, q5⟩
    | true =>
      refine ite_tt (chain_last (thn (hd.run pins s5 σ H5 _ I5 q5) fun w6 s6 h6 => ?_))
      obtain ⟨y'', H6, I6, r6, q6⟩ := h6
      exact ho'' pins s6 σ H6 y' y'' w4 w6 Q I6 r4 r6 q6
/-- a block cut behind its first statement: one word for all ways -/
def tCutH (t u : TS) : TS := fun D σ H => ∃ Mid : L2.St → Hp → Prop, t { D with nx := Mid } σ H ∧ ∀ σ' H', Mid σ' H' → u D σ' H'
theorem pss_cutH {st : Stmt} {rest : List Stmt} {t u : TS} (h1 : PS X st t) (h2 : PSs X rest u) : PSs X (st :: rest) (tCutH t u) := by
  refine ⟨fun pins s σ H D I h => ?_⟩
  obtain ⟨Mid, q1, q2⟩ := h
  refine wpAny_execs_cons (thn (h1.run pins s σ H { D with nx := Mid } I q1) fun f s1 q => ?_)
  cases f with
  | next =>
    obtain ⟨σ', H', I', m⟩ := q
    exact h2.run pins s1 σ' H' D I' (q2 σ' H' m)
  | ret v => exact q
  | brk => exact q
  | cont => exact q
/-! ### constants of the module -/
theorem pe_gS {x : Str} {z : Str} (hg : Gl X x) (h : ∃ t, X.mg x = some (.str z t)) (hd : (x == ("__debug__" : Str)) = false := by decide) : PE X (.Name x pos) (tC (.str z)) := by
  obtain ⟨t, e⟩ := h
  exact pe_glob hg e ⟨t, rfl⟩ hd
theorem pe_gI {x : Str} {z : Int} (hg : Gl X x) (h : ∃ t, X.mg x = some (.int z t)) (hd : (x == ("__debug__" : Str)) = false := by decide) : PE X (.Name x pos) (tC (.int z)) := by
  obtain ⟨t, e⟩ := h
  exact pe_glob hg e ⟨t, rfl⟩ hd
/-- an object of the module: a class, a table -/
theorem pe_gC {x : Str} {a : Addr} (hg : Gl X x) (h : X.mg x = some (.ref a)) (hd : (x == ("__debug__" : Str)) = false := by decide) : PE X (.Name x pos) (tC (.ref a)) := pe_glob hg h rfl hd
end
/-! ## a def by its name -/
structure OkF (P : Program) (w : World) (K : PySem.W.Frag) (mg : Str → Option Value) (base : Heap) (CX : CXT) (k : Nat) (f : Str) (ps : List Str) (sp : Sp) : Prop where
  ex : ∃ fd, FnOk P w K mg base CX k (He.ga K f) fd ps sp ∧ Binds K fd ps [] ∧ (∀ (s : Shared) (us : List Value), us.length = ps.length → BindsTo s fd ⟨us, []⟩ (ps.zip us)) ∧ ∃ oc od sl, K.lookup (He.ga K f) = some ⟨oc, od, .func fd, sl⟩
  kp : PySem.W.keepIn K (.ref (He.ga K f)) = true
  gl : mg f = some (.ref (He.ga K f))
/-- the def st of the module, as the top has left it -/
structure At (K : PySem.W.Frag) (mg : Str → Option Value) (f : Str) (st : Stmt) : Prop where
  fn : ∃ fd, FunD K f f (defArgs st) (defBody st) (defScope st) [] [] (He.ga K f) fd
  gl : mg f = some (.ref (He.ga K f))
/-- f(..) -/
def tFn (sp : Sp) (E : XK) (t : TA) : TE := fun σ H Q => t σ H fun vs H1 => sp vs H1 Q E
section
variable {X : Cx} {P : Program} {w : World} {K : PySem.W.Frag} {mg : Str → Option Value} {base : Heap}
theorem tCall_tFn {sp : Sp} {E : XK} {t : TA} : tCall sp [] E t = tFn sp E t := by
  funext σ H Q
  unfold tCall tFn
  congr 1
  funext vs H1
  rw [List.append_nil]
theorem pe_callF {CX : CXT} {k : Nat} {f : Str} {ps : List Str} {sp : Sp} {E : XK} {e : Expr} {es : List Expr} {t : TA} {p pos : Pos} (O : OkF X.prog X.w X.K X.mg X.base CX k f ps sp) (hr : Room k X.A) (hg : Gl X f) (hx : Passes CX X E) (h : PA X (e :: es) t)
    (hdb : (f == ("__debug__" : Str)) = false := by decide) (he : starEach (e :: es) X.env = (false, eval e X.env) :: starEach es X.env := by rfl) (hpl : (backTo pos (starEach es X.env)).any (·.1) = false := by rfl) : PE X (.Call (.Name f p) (e :: es) [] pos) (tFn sp E t) := by
  obtain ⟨fd, F, b, b2⟩ := O.ex
  rw [← tCall_tFn]
  exact pe_call F hr hg O.gl O.kp b .nil hx h hdb he hpl
theorem pe_callF0 {CX : CXT} {k : Nat} {f : Str} {ps : List Str} {sp : Sp} {E : XK} {p pos : Pos} (O : OkF X.prog X.w X.K X.mg X.base CX k f ps sp) (hr : Room k X.A) (hg : Gl X f) (hx : Passes CX X E) (hdb : (f == ("__debug__" : Str)) = false := by decide) : PE X (.Call (.Name f p) [] [] pos) (tFn sp E tNil) := by
  obtain ⟨fd, F, b, b2⟩ := O.ex
  rw [← tCall_tFn]
  exact pe_call0 F hr hg O.gl O.kp b .nil hx hdb
/-- THE RULE for a def from which nothing leaves -/
theorem okF0 {f : Str} {st : Stmt} {N ps : List Str} {k : Nat} {sp : Sp} (A : At K mg f st) (S : FnScope N ps (defScope st)) (len : ∀ vs H Q E, sp vs H Q E → vs.length = ps.length)
    (hb : ∀ (kV doc pm : Value) (an : Option Addr) (cdv ct : Value) (us : List Value), us.length = ps.length → bindArgs (PySem.W.fnOf f f (defArgs st) (defBody st) (defScope st) .none kV doc pm an cdv ct) ⟨us, []⟩ = pure (ps.zip us))
    (hbody : ∀ (cdv : Value) (A : Around) (outer : List Env) (s : Shared) (H : Hp) (vs : List V) (Q : VK) (E : XK), Room k (A.deeper (envOfC f (defScope st) s.heap.objs.size (He.ga K f) cdv)) → sp vs H Q E →
      ∃ t, PSs (cxOf CX0 P w K mg base N f (defScope st) (He.ga K f) cdv A outer s H E).nox (defBody st) t ∧ t { nx := fun _ H' => Q .non H', rt := Q } (start N vs) H) : OkF P w K mg base CX0 (k + 1) f ps sp := by
  obtain ⟨fd, F⟩ := A.fn
  refine ⟨⟨fd, F.ok S len fun cdv A outer s H vs Q E hr h => ?_, ?_⟩, F.kp, A.gl⟩
  · obtain ⟨t, h1, h2⟩ := hbody cdv A outer s H vs Q E hr h
    exact ⟨t, h1.nox, h2⟩
  · obtain ⟨oc, od, dV, kV, doc, pm, an, cdv, ct, osl, e, lk, _⟩ := F.ex
    exact ⟨F.bindsN hb, F.bindsA hb, _, _, _, lk⟩
/-- .. and for one that errors may leave -/
theorem okFX {f : Str} {st : Stmt} {N ps : List Str} {k : Nat} {sp : Sp} (A : At K mg f st) (S : FnScope N ps (defScope st)) (len : ∀ vs H Q E, sp vs H Q E → vs.length = ps.length)
    (hb : ∀ (kV doc pm : Value) (an : Option Addr) (cdv ct : Value) (us : List Value), us.length = ps.length → bindArgs (PySem.W.fnOf f f (defArgs st) (defBody st) (defScope st) .none kV doc pm an cdv ct) ⟨us, []⟩ = pure (ps.zip us))
    (hbody : ∀ (cdv : Value) (A : Around) (outer : List Env) (s : Shared) (H : Hp) (vs : List V) (Q : VK) (E : XK), Room k (A.deeper (envOfC f (defScope st) s.heap.objs.size (He.ga K f) cdv)) → sp vs H Q E →
      ∃ t, PSs (cxOf (L2.CX P w) P w K mg base N f (defScope st) (He.ga K f) cdv A outer s H E) (defBody st) t ∧ t { nx := fun _ H' => Q .non H', rt := Q } (start N vs) H) : OkF P w K mg base (L2.CX P w) (k + 1) f ps sp := by
  obtain ⟨fd, F⟩ := A.fn
  refine ⟨⟨fd, F.ok S len hbody, ?_⟩, F.kp, A.gl⟩
  obtain ⟨oc, od, dV, kV, doc, pm, an, cdv, ct, osl, e, lk, _⟩ := F.ex
  exact ⟨F.bindsN hb, F.bindsA hb, _, _, _, lk⟩
theorem OkF.mono {CX : CXT} {j k : Nat} {f : Str} {ps : List Str} {sp : Sp} (O : OkF P w K mg base CX j f ps sp) (h : j ≤ k) : OkF P w K mg base CX k f ps sp := by
  obtain ⟨fd, F, b, b2⟩ := O.ex
  exact ⟨⟨fd, F.mono h, b, b2⟩, O.kp, O.gl⟩
end
section
variable {K : PySem.W.Frag} {σ : L2.St} {H : Hp} {Q : VK} {r r' r'' : R2} {ta tb tc td : TE} {t : TA}
theorem w_fn {sp : Sp} {E : XK} (q : t σ H fun vs H1 => sp vs H1 Q E) : tFn sp E t σ H Q := q
theorem w_chain (q : ta σ H fun x H1 => tb σ H1 fun y H2 => r x y H2 fun z H3 => ∃ k, z = .bl k ∧ (if k = true then tc σ H3 fun w' H4 => r' y w' H4 Q else Q (.bl false) H3)) : tChain r r' ta tb tc σ H Q := q
theorem w_chain3 (q : ta σ H fun x H1 => tb σ H1 fun y H2 => r x y H2 fun z H3 => ∃ k, z = .bl k ∧
  (if k = true then tc σ H3 fun y' H4 => r' y y' H4 fun z' H5 => ∃ k', z' = .bl k' ∧ (if k' = true then td σ H5 fun y'' H6 => r'' y' y'' H6 Q else Q (.bl false) H5) else Q (.bl false) H3)) : tChain3 r r' r'' ta tb tc td σ H Q := q
end
end Hf

namespace Hf
open PySem PySem.Spec PyProof.Rows L2
/-! ## small facts that the steps ask -/
theorem c_mul {i j : Int} (h : (-18446744073709551616 < i ∧ i < 18446744073709551616) ∨ (-18446744073709551616 < j ∧ j < 18446744073709551616)) : CMul i j := by
  unfold CMul
  rcases h with h | h
  · exact .inl ⟨by have := h.1; omega, by have := h.2; omega⟩
  · exact .inr ⟨by have := h.1; omega, by have := h.2; omega⟩
theorem c_div {i j : Int} (h : 0 < j ∧ j < 1073741824) : CDiv i j := h
theorem c_pow {i j : Int} (h : 0 ≤ j ∧ j ≤ 1000000 ∧ i.natAbs < 2 ^ 64) : CPow i j := h
theorem c_mulW {i j : Int} (h : i.natAbs.log2 + j.natAbs.log2 < 1000000) : CMulW i j := h
theorem at_zero {α : Type} {x : α} {xs : List α} : atI (x :: xs) 0 = some x := atI_nat (j := 0) rfl
theorem at_one {α : Type} {x y : α} {xs : List α} : atI (x :: y :: xs) 1 = some y := atI_nat (j := 1) rfl
theorem w_one {α : Type} {a : α} {P : α → Prop} (q : P a) : ∃ i, [a] = [i] ∧ P i := ⟨a, rfl, q⟩
section
variable {K : PySem.W.Frag} {σ : L2.St} {H : Hp} {Q : VK} {M : List Addr} {v x : V}
theorem s_cut {t u : TS} {nx : L2.St → Hp → Prop} {rt bk ct} (Mid : L2.St → Hp → Prop) (h1 : t ⟨Mid, rt, bk, ct⟩ σ H) (h2 : ∀ σ' H', Mid σ' H' → u ⟨nx, rt, bk, ct⟩ σ' H') : tCutH t u ⟨nx, rt, bk, ct⟩ σ H := ⟨Mid, h1, h2⟩
theorem eqV_int (i j : Int) : eqV (.int i) (.int j) = decide (i = j) := by
  show (i == j) = _
  exact Bool.beq_eq_decide_eq i j
theorem eqV_str (i j : Str) : eqV (.str i) (.str j) = decide (i = j) := by
  show (i == j) = _
  exact Bool.beq_eq_decide_eq i j
theorem inV_ints (a : Int) : ∀ ns : List Int, inV (.int a) (ns.map V.int) = decide (a ∈ ns)
  | [] => by simp [inV]
  | n :: r => by
    have ih := inV_ints a r
    unfold inV at ih ⊢
    rw [List.map_cons, List.any_cons, ih, eqV_int]
    by_cases h : n = a
    · subst h; simp
    · have h' : ¬ a = n := fun z => h z.symm
      simp [h, h']
theorem inV_strs (a : Str) : ∀ ns : List Str, inV (.str a) (ns.map V.str) = decide (a ∈ ns)
  | [] => by simp [inV]
  | n :: r => by
    have ih := inV_strs a r
    unfold inV at ih ⊢
    rw [List.map_cons, List.any_cons, ih, eqV_str]
    by_cases h : n = a
    · subst h; simp
    · have h' : ¬ a = n := fun z => h z.symm
      simp [h, h']
theorem flat_ints : ∀ ns : List Int, (ns.map V.int).all flatV = true
  | [] => rfl
  | n :: r => by rw [List.map_cons, List.all_cons, flat_ints r]; rfl
theorem flat_strs : ∀ ns : List Str, (ns.map V.str).all flatV = true
  | [] => rfl
  | n :: r => by rw [List.map_cons, List.all_cons, flat_strs r]; rfl
theorem seq_dp {y : V} {ds : List PyData} (h : Dp K (vis M H) y (.list ds) ∨ Dp K (vis M H) y (.tuple ds)) : ∃ p xs, y = .ref p ∧ (SqL K H p xs ∨ SqT K H p xs) ∧ DpAll K (vis M H) xs ds := by
  obtain ⟨p, ys, h1, h2, _, h3⟩ := len_dp h
  exact ⟨p, ys, h1, h2, h3⟩
theorem w_inI {a : Int} {y : V} (ns : List Int) (h : Dp K (vis M H) y (.list (ns.map PyData.int)) ∨ Dp K (vis M H) y (.tuple (ns.map PyData.int))) (q : Q (.bl (decide (a ∈ ns))) H) : rIn K false (.int a) y H Q := by
  obtain ⟨p, xs, rfl, h1, h2⟩ := seq_dp h
  cases ints_of_dp h2
  refine ⟨p, _, rfl, h1, rfl, flat_ints ns, ?_⟩
  rw [inV_ints]; exact q
theorem w_niI {a : Int} {y : V} (ns : List Int) (h : Dp K (vis M H) y (.list (ns.map PyData.int)) ∨ Dp K (vis M H) y (.tuple (ns.map PyData.int))) (q : Q (.bl (!decide (a ∈ ns))) H) : rIn K true (.int a) y H Q := by
  obtain ⟨p, xs, rfl, h1, h2⟩ := seq_dp h
  cases ints_of_dp h2
  refine ⟨p, _, rfl, h1, rfl, flat_ints ns, ?_⟩
  rw [inV_ints]; exact q
theorem w_inS {a : Str} {y : V} (ns : List Str) (h : Dp K (vis M H) y (.list (ns.map PyData.str)) ∨ Dp K (vis M H) y (.tuple (ns.map PyData.str))) (q : Q (.bl (decide (a ∈ ns))) H) : rIn K false (.str a) y H Q := by
  obtain ⟨p, xs, rfl, h1, h2⟩ := seq_dp h
  cases strs_of_dp h2
  refine ⟨p, _, rfl, h1, rfl, flat_strs ns, ?_⟩
  rw [inV_strs]; exact q
theorem w_niS {a : Str} {y : V} (ns : List Str) (h : Dp K (vis M H) y (.list (ns.map PyData.str)) ∨ Dp K (vis M H) y (.tuple (ns.map PyData.str))) (q : Q (.bl (!decide (a ∈ ns))) H) : rIn K true (.str a) y H Q := by
  obtain ⟨p, xs, rfl, h1, h2⟩ := seq_dp h
  cases strs_of_dp h2
  refine ⟨p, _, rfl, h1, rfl, flat_strs ns, ?_⟩
  rw [inV_strs]; exact q
theorem at_any {α : Type} {xs : List α} {i : Int} (h0 : 0 ≤ i) (h1 : i < xs.length) : ∃ x, atI xs i = some x ∧ x ∈ xs := by
  have h2 : i.toNat < xs.length := by omega
  exact ⟨xs[i.toNat], at_nat h0 (List.getElem?_eq_getElem h2), List.getElem_mem h2⟩
/-- an item at an open place -/
theorem w_ixLa {a : V} {ds : List PyData} {i : Int} (h : Dp K (vis M H) a (.list ds)) (h0 : 0 ≤ i) (h1 : i < ds.length) (q : ∀ v d, d ∈ ds → Dp K (vis M H) v d → Q v H) : rIxL K a (.int i) H Q := by
  obtain ⟨d, g, m⟩ := at_any h0 h1
  exact w_ixL h g fun v hv => q v d m hv
/-- ints at an open place -/
theorem w_ixI {a : V} (ns : List Int) {i : Int} (h : Dp K (vis M H) a (.list (ns.map PyData.int))) (h0 : 0 ≤ i) (h1 : i < ns.length) (q : ∀ n, n ∈ ns → Q (.int n) H) : rIxL K a (.int i) H Q := by
  refine w_ixLa h h0 (by rw [List.length_map]; exact h1) fun v d m hv => ?_
  obtain ⟨n, hn, rfl⟩ := List.mem_map.mp m
  rw [dp_int hv]
  exact q n hn
theorem w_ixInt {a : V} {ds : List PyData} {i j : Int} (h : Dp K (vis M H) a (.list ds)) (g : atI ds i = some (.int j)) (q : Q (.int j) H) : rIxL K a (.int i) H Q := w_ixL h g fun v hv => by rw [dp_int hv]; exact q
theorem w_ixStr {a : V} {ds : List PyData} {i : Int} {j : Str} (h : Dp K (vis M H) a (.list ds)) (g : atI ds i = some (.str j)) (q : Q (.str j) H) : rIxL K a (.int i) H Q := w_ixL h g fun v hv => by rw [dp_str hv]; exact q
theorem w_ixTInt {a : V} {ds : List PyData} {i j : Int} (h : Dp K (vis M H) a (.tuple ds)) (g : atI ds i = some (.int j)) (q : Q (.int j) H) : rIxT K a (.int i) H Q := w_ixT h g fun v hv => by rw [dp_int hv]; exact q
theorem w_ixTStr {a : V} {ds : List PyData} {i : Int} {j : Str} (h : Dp K (vis M H) a (.tuple ds)) (g : atI ds i = some (.str j)) (q : Q (.str j) H) : rIxT K a (.int i) H Q := w_ixT h g fun v hv => by rw [dp_str hv]; exact q
theorem w_ixTR {p : Addr} {xs : List V} {i : Int} (h : H p = some (.tup xs)) (g : atI xs i = some v) (q : Q v H) : rIxT K (.ref p) (.int i) H Q := ⟨p, xs, i, v, rfl, rfl, .inl (.inl h), g, q⟩
/-- xs[i] = e on a raw list -/
theorem g_set {to ti : TE} {Q : L2.St → Hp → Prop} (q : to σ H fun o H1 => ti σ H1 fun i H2 => rSetL o i v H2 fun H3 => Q σ H3) : gSub to ti rSetL v σ H Q := q
theorem w_setL {p : Addr} {xs : List V} {k : Int} {j : Nat} {Q : Hp → Prop} (h : H p = some (.lst xs)) (g : ixN xs.length k = some j) (q : Q (upd H p (.lst (xs.set j v)))) : rSetL (.ref p) (.int k) v H Q := ⟨p, xs, k, j, rfl, rfl, h, g, q⟩
/-- .. the heap behind it a letter -/
theorem w_setB {p : Addr} {xs : List V} {k : Int} {j : Nat} {Q : Hp → Prop} (h : H p = some (.lst xs)) (g : ixN xs.length k = some j) (q : ∀ H', But p H H' → H' p = some (.lst (xs.set j v)) → Q H') : rSetL (.ref p) (.int k) v H Q :=
  w_setL h g (q _ (fun b o n e => by rw [upd_ne n]; exact e) upd_same)
theorem w_appB {p : Addr} {xs : List V} {y : V} (h : H p = some (.lst xs)) (hz : xs.length < 100000) (q : ∀ H', But p H H' → H' p = some (.lst (xs ++ [y])) → Q .non H') : rAppend (.ref p) [y] H Q :=
  w_app h hz (q _ (fun b o n e => by rw [upd_ne n]; exact e) upd_same)
theorem w_clrB {p : Addr} {xs : List V} (h : H p = some (.lst xs)) (q : ∀ H', But p H H' → H' p = some (.lst []) → Q .non H') : rClear (.ref p) [] H Q :=
  ⟨p, xs, rfl, rfl, h, q _ (fun b o n e => by rw [upd_ne n]; exact e) upd_same⟩
end
theorem c_divW {i j : Int} (h : 0 < j ∧ j < 2 ^ 200) : CDivW i j := wide_div (b := 200) h.1 (by have := h.1; have := h.2; omega) (by decide) (by decide)
/-- while, with a measure -/
theorem s_while {c : TT} {tb u : TS} {σ : L2.St} {H : Hp} {nx : L2.St → Hp → Prop} {rt : VK} {bk ct} (Pv : Nat → L2.St → Hp → Prop) (h0 : ∃ m, Pv m σ H)
    (step : ∀ m σ H, Pv m σ H → c σ H fun b H1 => if b = true then ∃ N : L2.St → Hp → Prop, (∀ σ' H', N σ' H' → ∃ m', m' < m ∧ Pv m' σ' H') ∧ tb ⟨N, rt, u ⟨nx, rt, bk, ct⟩, N⟩ σ H1 else u ⟨nx, rt, bk, ct⟩ σ H1) : tSeq (tWhile c tb) u ⟨nx, rt, bk, ct⟩ σ H := ⟨Pv, h0, step⟩
theorem w_whN {m : Nat} {Pv : Nat → L2.St → Hp → Prop} {B : (L2.St → Hp → Prop) → Prop} (h : B fun σ' H' => ∃ m', m' < m ∧ Pv m' σ' H') : ∃ N : L2.St → Hp → Prop, (∀ σ' H', N σ' H' → ∃ m', m' < m ∧ Pv m' σ' H') ∧ B N := ⟨_, fun _ _ h => h, h⟩
theorem start_as {N : List Str} {vs : List V} {σ : L2.St} {t : TS} {D : Ends} {H : Hp} (e : L2.start N vs = σ) (h : t D σ H) : t D (L2.start N vs) H := by rw [e]; exact h
/-- the last step: what a law's def promises is enough -/
theorem law_end {l : PySem.W.OpenLaw} {w : World} {K : PySem.W.Frag} {h : Heap} {mg : Str → Option Value} {k : Nat} {x : Str} {sp : Sp} (KX : K.In h) (G : h.Ns mainGlobals mg)
    (ok : ∀ base : Heap, OkF l.prog w K mg base L2.CX0 k "law" [x] sp) (hin : ∀ (H : Hp) (a : Addr) (ns : List Int), ns.length ≤ 63 → SqL K H a (ns.map V.int) → sp [.ref a] H (fun v _ => v = .bl true) fun _ _ _ => False) :
    ∃ (K' : PySem.W.Frag) (fd : FuncData) (sp : Sp), K'.In h ∧ (∀ (s : Shared) (u : Value), BindsTo s fd ⟨[u], []⟩ [(x, u)]) ∧
      (∀ (H : Hp) (a : Addr) (ns : List Int), ns.length ≤ 63 → Only H → SqL K' H a (ns.map V.int) → sp [.ref a] H (fun v _ => v = .bl true) fun _ _ _ => False) ∧
      ∀ base : Heap, K'.In base → base.Ns mainGlobals mg → FnOk l.prog w K' mg base L2.CX0 k (He.ga K "law") fd [x] sp := by
  obtain ⟨fd, _, _, hb, _, _, _, lk⟩ := (ok h).ex
  refine ⟨K, fd, sp, KX, fun s u => hb s [u] rfl, fun H a ns hl _ hS => hin H a ns hl hS, fun base _ _ => ?_⟩
  obtain ⟨fd', F, _, _, _, _, _, lk'⟩ := (ok base).ex
  rw [lk] at lk'
  cases lk'
  exact F
end Hf

namespace Hf
open PySem PySem.Spec PyProof.Rows L2
/-! ## numbers as texts -/
/-- the text of a number -/
abbrev nz (n : Nat) : Str := Str.ofString (toString ((n : Nat) : Int))
open TL in
theorem nz_tl (n : Nat) : tl (nz n) = numL n := tl_num n
open TL in
theorem nz_len (n : Nat) : (nz n).length = (numL n).length := by rw [len_tl, nz_tl]
open TL in
theorem nz_cps (n : Nat) : (nz n).cps.toList = numL n := nz_tl n
open TL in
theorem nz_ne (n : Nat) : nz n ≠ "" := fun z => by
  have e := congrArg tl z
  rw [nz_tl] at e
  exact numL_ne n e
open TL in
theorem nz_le {n : Nat} (h : n < 10 ^ 40) : (nz n).length ≤ 40 := by
  rw [nz_len]
  exact numL_len (by decide) h
open TL in
/-- a number whose first figure is 0 is 0 -/
theorem numL_zero : ∀ (n : Nat), (numL n)[0]? = some 48 → n = 0 := by
  intro n
  induction n using Nat.strongRecOn with
  | ind n ih =>
    intro h
    by_cases c : n < 10
    · rw [numL_lt c] at h
      simp at h
      omega
    · rw [numL_step (by omega)] at h
      have ne := numL_ne (n / 10)
      have h2 : (numL (n / 10))[0]? = some 48 := by
        cases e : numL (n / 10) with
        | nil => exact absurd e ne
        | cons a r => rw [e] at h; simpa using h
      have := ih (n / 10) (by omega) h2
      omega
open TL in
theorem numL_mem {n c : Nat} (h : c ∈ numL n) : 48 ≤ c ∧ c ≤ 57 := by
  by_cases h1 : c < 48
  · exact absurd h (numL_free (.inl h1))
  · by_cases h2 : 57 < c
    · exact absurd h (numL_free (.inr h2))
    · omega
open TL in
theorem nz_int {n : Nat} (h : n < 10 ^ 40) : PySem.intText? (nz n) = some (n : Int) := int_num (by
  have := numL_len (n := n) (k := 40) (by decide) h
  omega)
theorem rAny_ok {K : PySem.W.Frag} {M : List Addr} {H : Hp} {Q : VK} {x : V} (bs : List Bool) (h : Dp K (vis M H) x (.list (bs.map PyData.bool))) (q : Q (.bl (bs.any id)) H) : rAny K [x] H Q := by
  obtain ⟨p, vs, rfl, h1, h2⟩ := dp_list h
  cases bls_of_dp h2
  exact ⟨p, bs, rfl, sqlv h1, q⟩
theorem rAll_ok {K : PySem.W.Frag} {M : List Addr} {H : Hp} {Q : VK} {x : V} (bs : List Bool) (h : Dp K (vis M H) x (.list (bs.map PyData.bool))) (q : Q (.bl (bs.all id)) H) : rAll K [x] H Q := by
  obtain ⟨p, vs, rfl, h1, h2⟩ := dp_list h
  cases bls_of_dp h2
  exact ⟨p, bs, rfl, sqlv h1, q⟩
theorem any_false {α : Type} (l : List α) : ((l.map fun _ => false).any id) = false := by
  induction l with
  | nil => rfl
  | cons a r ih => exact ih
theorem all_true {α : Type} (l : List α) : ((l.map fun _ => true).all id) = true := by
  induction l with
  | nil => rfl
  | cons a r ih => exact ih
theorem figs : ("0123456789" : Str).cps.toList = [48, 49, 50, 51, 52, 53, 54, 55, 56, 57] := by decide +kernel
theorem in_figs {c : Nat} (h : 48 ≤ c ∧ c ≤ 57) : c ∈ ("0123456789" : Str).cps.toList := by
  rw [figs]
  obtain ⟨h1, h2⟩ := h
  rcases (by omega : c = 48 ∨ c = 49 ∨ c = 50 ∨ c = 51 ∨ c = 52 ∨ c = 53 ∨ c = 54 ∨ c = 55 ∨ c = 56 ∨ c = 57) with e | e | e | e | e | e | e | e | e | e <;> subst e <;> decide
open TL in
theorem nz_first {n : Nat} : ∃ c, atI (nz n).cps.toList 0 = some c ∧ (c = 48 → nz n = "0") := by
  rw [nz_cps]
  cases e : numL n with
  | nil => exact absurd e (numL_ne n)
  | cons a r =>
    refine ⟨a, atI_nat (j := 0) rfl, fun h => ?_⟩
    subst h
    have := numL_zero n (by rw [e]; rfl)
    subst this
    decide +kernel
theorem one_sign {c : Nat} (h : (⟨#[c]⟩ : Str) = "0") : c = 48 := by
  have e : (⟨#[c]⟩ : Str).cps = ("0" : Str).cps := congrArg Str.cps h
  have e2 : ("0" : Str).cps = #[48] := by decide +kernel
  rw [e2] at e
  have := congrArg Array.toList e
  simpa using this
theorem log2_small {i : Int} (h : i.natAbs < 2 ^ 1900) : i.natAbs.log2 < 1920 := by
  by_cases c : i.natAbs = 0
  · rw [c]; decide
  · exact Nat.lt_of_lt_of_le (Nat.log2_lt c |>.mpr h) (by decide)
theorem all_filterMap_false {α : Type} (l : List α) (p : α → Bool) (h : ∀ c ∈ l, p c = false) : ((l.map p).any id) = false := by
  induction l with
  | nil => rfl
  | cons a r ih =>
    rw [List.map_cons, List.any_cons, ih fun c hc => h c (List.mem_cons_of_mem _ hc), h a List.mem_cons_self]
    rfl
open TL in
theorem len_app (a b : Str) : (a ++ b).length = a.length + b.length := by
  rw [len_tl, len_tl, len_tl, tl_append, List.length_append]
theorem pz_len (a b : Nat) : (nz a ++ "-" ++ nz b).length = (nz a).length + 1 + (nz b).length := by
  rw [len_app, len_app]
  have : ("-" : Str).length = 1 := by decide +kernel
  rw [this]
theorem app_assoc (a b c : Str) : a ++ b ++ c = a ++ (b ++ c) := TL.ext_tl (by rw [TL.tl_append, TL.tl_append, TL.tl_append, TL.tl_append, List.append_assoc])
open TL in
theorem join2 (s a b : Str) : Txt.join s [a, b] = a ++ s ++ b := by
  rw [join_eq]
  apply ext_tl
  rw [tl_join, tl_append, tl_append]
  show joinL (tl s) [tl a, tl b] = _
  simp [joinL]
open TL in
theorem split_pz (a b : Nat) : Txt.split (nz a ++ "-" ++ nz b) "-" = [nz a, nz b] := by
  rw [← join2 "-" (nz a) (nz b)]
  refine split_join (s := 45) (S := []) (by decide +kernel) (by decide +kernel) (by simp) fun p hp => ?_
  simp only [List.mem_cons, List.not_mem_nil, or_false] at hp
  rcases hp with rfl | rfl <;> (rw [nz_tl]; exact numL_free (.inl (by decide)))
open TL in
theorem joinL_le (s : List Nat) : ∀ ps : List (List Nat), (joinL s ps).length ≤ (ps.map (·.length)).sum + ps.length * s.length
  | [] => Nat.zero_le _
  | [p] => by simp [joinL]
  | p :: p' :: r => by
    have ih := joinL_le s (p' :: r)
    simp only [joinL, List.length_append, List.map_cons, List.sum_cons, List.length_cons] at ih ⊢
    have : (r.length + 1 + 1) * s.length = (r.length + 1) * s.length + s.length := Nat.succ_mul _ _
    omega
open TL in
theorem join_len (s : Str) (ps : List Str) : (Txt.join s ps).length ≤ (ps.map (·.length)).sum + ps.length * s.length := by
  rw [join_eq, len_tl, tl_join, len_tl]
  have := joinL_le (tl s) (ps.map tl)
  rw [List.length_map, List.map_map] at this
  have e : (List.map ((fun x => x.length) ∘ tl) ps) = ps.map (·.length) := by
    apply List.map_congr_left
    intro a _
    rw [len_tl]; rfl
  rw [e] at this
  exact this
theorem sum_leC (c : Nat) : ∀ l : List Nat, (∀ x ∈ l, x ≤ c) → l.sum ≤ l.length * c
  | [], _ => Nat.zero_le _
  | a :: r, h => by
    rw [List.sum_cons, List.length_cons, Nat.succ_mul]
    have h1 := h a List.mem_cons_self
    have h2 := sum_leC c r fun x hx => h x (List.mem_cons_of_mem _ hx)
    omega
theorem pz_le {a b : Nat} (ha : a < 10 ^ 40) (hb : b < 10 ^ 40) : (nz a ++ "-" ++ nz b).length ≤ 81 := by
  have := nz_le ha
  have := nz_le hb
  rw [pz_len]; omega
/-! ### f-strings -/
def jsR (ts : List TE) (acc : Str) (σ : L2.St) (x : V) (H : Hp) (Q : Str → Hp → Prop) : Prop := ∃ y : Str, x = .str y ∧ (acc ++ y).length ≤ sizeLine ∧ tJs ts (acc ++ y) σ H Q
def fmtR (x : V) (H : Hp) (Q : VK) : Prop := (∃ y : Str, x = .str y ∧ y.length ≤ sizeLine ∧ Q (.str y) H) ∨ ∃ i : Int, x = .int i ∧ i.natAbs.log2 < 1920 ∧ Q (.str (toString i)) H
section
variable {σ : L2.St} {H : Hp} {t te : TE} {ts : List TE} {acc : Str}
theorem w_js {Q : Str → Hp → Prop} (q : t σ H fun x H1 => jsR ts acc σ x H1 Q) : tJs (t :: ts) acc σ H Q := q
theorem w_js0 {Q : Str → Hp → Prop} (q : Q acc H) : tJs [] acc σ H Q := q
theorem w_jsS {y : Str} {Q : Str → Hp → Prop} (h : acc.length + y.length ≤ 100000) (q : tJs ts (acc ++ y) σ H Q) : jsR ts acc σ (.str y) H Q := ⟨y, rfl, sz (by rw [len_app]; exact h), q⟩
theorem w_fmt {Q : VK} (q : te σ H fun x H1 => fmtR x H1 Q) : tFmt te σ H Q := q
theorem w_fmtI {i : Int} {Q : VK} (h : i.natAbs.log2 < 1920) (q : Q (.str (toString i)) H) : fmtR (.int i) H Q := .inr ⟨i, rfl, h, q⟩
theorem w_fmtS {y : Str} {Q : VK} (h : y.length ≤ 100000) (q : Q (.str y) H) : fmtR (.str y) H Q := .inl ⟨y, rfl, sz h, q⟩
end
theorem empty_app (y : Str) : Str.empty ++ y = y := TL.ext_tl (by rw [TL.tl_append]; rfl)
theorem nat_log {n : Nat} (h : n < 10 ^ 40) : ((n : Nat) : Int).natAbs.log2 < 1920 := log2_small (by rw [Int.natAbs_natCast]; omega)
theorem w_fmtN {H : Hp} {n : Nat} {Q : VK} (h : n < 10 ^ 40) (q : Q (.str (nz n)) H) : fmtR (.int n) H Q := w_fmtI (nat_log h) q
theorem w_strN {H : Hp} {n : Nat} {Q : VK} (h : n < 10 ^ 40) (q : Q (.str (nz n)) H) : rStrI [.int n] H Q := w_strI (nat_log h) q
theorem len_empty : Str.empty.length = 0 := rfl
theorem one_dash : ("-" : Str).length = 1 := by decide +kernel
theorem one_blank : (" " : Str).length = 1 := by decide +kernel
def dNums (ns : List Nat) : List PyData := ns.map fun (n : Nat) => PyData.int (n : Int)
theorem dNums_len (ns : List Nat) : (dNums ns).length = ns.length := List.length_map _
theorem w_lenTn {K : PySem.W.Frag} {H : Hp} {Q : VK} {M : List Addr} {a : V} {ds : List PyData} {n : Nat} (h : Dp K (vis M H) a (.tuple ds)) (e : ds.length = n) (q : Q (.int (n : Int)) H) : rLenQ K [a] H Q := w_lenT h (by rw [e]; exact q)
theorem w_lenLn {K : PySem.W.Frag} {H : Hp} {Q : VK} {M : List Addr} {a : V} {ds : List PyData} {n : Nat} (h : Dp K (vis M H) a (.list ds)) (e : ds.length = n) (q : Q (.int (n : Int)) H) : rLenQ K [a] H Q := w_lenL h (by rw [e]; exact q)
theorem dec_t {p : Prop} [Decidable p] {Q : V → Hp → Prop} {H : Hp} (h : p) (q : Q (.bl true) H) : Q (.bl (decide p)) H := by rw [decide_eq_true h]; exact q
theorem dec_f {p : Prop} [Decidable p] {Q : V → Hp → Prop} {H : Hp} (h : ¬ p) (q : Q (.bl false) H) : Q (.bl (decide p)) H := by rw [decide_eq_false h]; exact q
/-- the text of a pair -/
abbrev pz (a b : Nat) : Str := nz a ++ "-" ++ nz b
/-- a web by its places and ties, as data -/
def dTie (t : Nat × Nat) : PyData := .tuple [.int t.1, .int t.2]
def dWeb (n : Nat) (ts : List (Nat × Nat)) : PyData := .tuple [.int n, .list (ts.map dTie)]
/-- its line -/
def pzs (ts : List (Nat × Nat)) : List Str := ts.map fun t => pz t.1 t.2
def lineOf (n : Nat) (ts : List (Nat × Nat)) : Str := Txt.join " " (nz n :: pzs ts)
def okTies (n : Nat) (ts : List (Nat × Nat)) : Prop := ∀ t ∈ ts, t.1 < t.2 ∧ t.2 < n
theorem pzs_sum {n : Nat} {ts : List (Nat × Nat)} (hn : n ≤ 7) (ok : okTies n ts) : ((pzs ts).map (·.length)).sum ≤ ts.length * 81 := by
  have := sum_leC 81 ((pzs ts).map (·.length)) (by
    intro x hx
    simp only [pzs, List.map_map, List.mem_map, Function.comp] at hx
    obtain ⟨t, ht, rfl⟩ := hx
    have ot := ok t ht
    exact pz_le (by omega) (by omega))
  rw [List.length_map, pzs, List.length_map] at this
  exact this
theorem split_line (n : Nat) (ts : List (Nat × Nat)) : Txt.split (lineOf n ts) " " = nz n :: pzs ts := by
  refine TL.split_join (s := 32) (S := []) (by decide +kernel) (by decide +kernel) (by simp) fun p hp => ?_
  rcases List.mem_cons.mp hp with rfl | hp
  · rw [nz_tl]; exact TL.numL_free (.inl (by decide))
  · obtain ⟨t, _, rfl⟩ := List.mem_map.mp hp
    rw [TL.tl_append, TL.tl_append, nz_tl, nz_tl]
    intro h
    rcases List.mem_append.mp h with h | h
    · rcases List.mem_append.mp h with h | h
      · exact TL.numL_free (.inl (by decide)) h
      · revert h; decide +kernel
    · exact TL.numL_free (.inl (by decide)) h
theorem line_len {n : Nat} {ts : List (Nat × Nat)} (hn : n ≤ 7) (hl : ts.length ≤ 40) (ok : okTies n ts) : (lineOf n ts).length ≤ 4000 := by
  have h1 := join_len " " (nz n :: pzs ts)
  have h2 := pzs_sum hn ok
  have h3 := nz_le (n := n) (by omega)
  have l2 : (pzs ts).length = ts.length := List.length_map _
  rw [one_blank, List.map_cons, List.sum_cons, List.length_cons, l2] at h1
  unfold lineOf
  omega
open TL in
theorem joinL_sep (s : List Nat) : ∀ (p : List Nat) (ps : List (List Nat)), joinL s (p :: ps) = p ++ joinL [] (ps.map fun x => s ++ x)
  | p, [] => by simp [joinL]
  | p, q :: r => by
    have ih := joinL_sep s q r
    cases r with
    | nil => simp [joinL]
    | cons c r => simp only [joinL, List.map_cons, List.nil_append] at ih ⊢; rw [ih]; simp
open TL in
theorem due_eq (n : Nat) (ts : List (Nat × Nat)) : nz n ++ Txt.join "" (ts.map fun t => " " ++ nz t.1 ++ "-" ++ nz t.2) = lineOf n ts := by
  apply ext_tl
  unfold lineOf pzs
  rw [tl_append, join_eq, join_eq, tl_join, tl_join, List.map_cons, joinL_sep, List.map_map, List.map_map, List.map_map]
  congr 2
  apply List.map_congr_left
  intro t _
  simp only [Function.comp, tl_append, List.append_assoc]
theorem due_len {n : Nat} {ts : List (Nat × Nat)} (hn : n ≤ 7) (hl : ts.length ≤ 40) (ok : okTies n ts) : (nz n).length + (Txt.join "" (ts.map fun t => " " ++ nz t.1 ++ "-" ++ nz t.2)).length ≤ 4000 := by
  rw [← len_app, due_eq]; exact line_len hn hl ok
theorem due_sum {n : Nat} {ts : List (Nat × Nat)} (hn : n ≤ 7) (ok : okTies n ts) : ((ts.map fun t => " " ++ nz t.1 ++ "-" ++ nz t.2).map (·.length)).sum ≤ ts.length * 82 := by
  have := sum_leC 82 ((ts.map fun t => " " ++ nz t.1 ++ "-" ++ nz t.2).map (·.length)) (by
    intro x hx
    simp only [List.map_map, List.mem_map, Function.comp] at hx
    obtain ⟨t, ht, rfl⟩ := hx
    have ot := ok t ht
    have := pz_le (a := t.1) (b := t.2) (by omega) (by omega)
    rw [pz_len] at this
    rw [len_app, len_app, len_app, one_dash, one_blank]
    omega)
  rw [List.length_map, List.length_map] at this
  exact this
theorem shp_nums {k : Nat} (ns : List Nat) : ∀ d ∈ dNums ns, Shp k d := fun d hd => by
  obtain ⟨n, _, rfl⟩ := List.mem_map.mp hd
  exact .int _
theorem shp_tie (t : Nat × Nat) : Shp 1 (dTie t) := .tup fun d hd => by
  rcases List.mem_cons.mp hd with rfl | hd
  · exact .int _
  · rw [List.mem_singleton.mp hd]; exact .int _
theorem shp_ties (ts : List (Nat × Nat)) : Shp 2 (.list (ts.map dTie)) := .list fun d hd => by
  obtain ⟨t, _, rfl⟩ := List.mem_map.mp hd
  exact shp_tie t
theorem shp_web (n : Nat) (ts : List (Nat × Nat)) : Shp 3 (dWeb n ts) := .tup fun d hd => by
  rcases List.mem_cons.mp hd with rfl | hd
  · exact .int _
  · rw [List.mem_singleton.mp hd]; exact shp_ties ts
theorem ties_of {n : Nat} : ∀ {ds : List PyData}, (∀ d ∈ ds, ∃ t : Nat × Nat, d = dTie t ∧ t.1 < t.2 ∧ t.2 < n) → ∃ ts, ds = ts.map dTie ∧ okTies n ts
  | [], _ => ⟨[], rfl, fun _ h => nomatch h⟩
  | d :: r, h => by
    obtain ⟨t, rfl, h1⟩ := h d List.mem_cons_self
    obtain ⟨ts, rfl, h2⟩ := ties_of fun x hx => h x (List.mem_cons_of_mem _ hx)
    refine ⟨t :: ts, rfl, fun x hx => ?_⟩
    rcases List.mem_cons.mp hx with rfl | hx
    · exact h1
    · exact h2 x hx
end Hf

namespace Hf
open PySem PySem.Spec PyProof.Rows L2
section
variable {K : PySem.W.Frag} {σ : L2.St} {H : Hp} {Q : VK} {M : List Addr} {v x : V}
/-- a slice of a tuple -/
theorem w_slT {a : V} {ds : List PyData} {lo hi : Option Int} (hM : Dom M H) (h : Dp K (vis M H) a (.tuple ds)) (q : ∀ p H', Ext H H' → Dom M H' → Dp K (vis M H') (.ref p) (.tuple (cutD ds lo hi)) → Q (.ref p) H') : rSlA K a lo hi H Q := by
  obtain ⟨p, vs, rfl, h1, h2⟩ := dp_tup h
  refine ⟨p, vs, rfl, sqtv h1, fun z => ?_, fun _ l hl => ?_⟩
  · refine q p H (Ext.refl H) hM ?_
    have e : cutD ds lo hi = ds := by
      unfold cutD
      rw [← dpAll_len h2, z.1, z.2, List.drop_zero, Nat.sub_zero]
      exact List.take_of_length_le (by rw [dpAll_len h2]; exact Nat.le_refl _)
    rw [e]; exact h
  · have e : Ext H (upd H l (.tup (cutV vs lo hi))) := ext_new hl
    refine q l _ e (hM.ext e) (.tup (.inl (.inl ?_)) (dpAllx e (dp_cut h2 lo hi)))
    rw [vis_out (hM.new hl), upd_same]
end
/-! ## isinstance -/
section
variable {K : PySem.W.Frag} {H : Hp} {M : List Addr} {Q : VK} {x : V}
theorem tyx_list {ds : List PyData} (h : Dp K (vis M H) x (.list ds)) : TyX K H x (.type "list") := by
  obtain ⟨p, vs, rfl, h1, _⟩ := dp_list h
  rcases sqlv h1 with (e | ⟨o, e⟩) | ⟨o, _, _, e, c, _⟩
  · exact .base (.lst e)
  · exact .base (.frz e)
  · exact .kList e c
theorem tyx_tup {ds : List PyData} (h : Dp K (vis M H) x (.tuple ds)) : TyX K H x (.type "tuple") := by
  obtain ⟨p, vs, rfl, h1, _⟩ := dp_tup h
  rcases sqtv h1 with (e | ⟨o, e⟩) | ⟨o, _, _, e, c, _⟩
  · exact .base (.tup e)
  · exact .fTuple e
  · exact .kTuple e c
theorem w_isi {t c : String} (b : Bool) (h : TyX K H x (.type t)) (e : PySem.W.kitOne K (.type t) (.type c) = some b) (q : Q (.bl b) H) : rIsi K [x, .ty c] H Q := ⟨x, _, _, _, b, rfl, .ty c, h, e, q⟩
theorem w_isiII {i : Int} (q : Q (.bl true) H) : rIsi K [.int i, .ty "int"] H Q := w_isi true (.base (.int i)) (by rfl) q
theorem w_isiIB {i : Int} (q : Q (.bl false) H) : rIsi K [.int i, .ty "bool"] H Q := w_isi false (.base (.int i)) (by rfl) q
theorem w_isiSS {z : Str} (q : Q (.bl true) H) : rIsi K [.str z, .ty "str"] H Q := w_isi true (.base (.str z)) (by rfl) q
theorem w_isiTT {ds : List PyData} (h : Dp K (vis M H) x (.tuple ds)) (q : Q (.bl true) H) : rIsi K [x, .ty "tuple"] H Q := w_isi true (tyx_tup h) (by rfl) q
theorem w_isiLL {ds : List PyData} (h : Dp K (vis M H) x (.list ds)) (q : Q (.bl true) H) : rIsi K [x, .ty "list"] H Q := w_isi true (tyx_list h) (by rfl) q
def isLT : PyData → Bool
  | .list _ => true
  | .tuple _ => true
  | _ => false
def isL1 : PyData → Bool
  | .list _ => true
  | _ => false
def isS1 : PyData → Bool
  | .str _ => true
  | _ => false
/-- isinstance(x, (list, tuple)) -/
theorem w_isiLT {p : Addr} {d : PyData} (h : Dp K (vis M H) x d) (hp : H p = some (.tup [.ty "list", .ty "tuple"])) (b : Bool) (hb : isLT d = b) (q : Q (.bl b) H) : rIsiT K [x, .ref p] H Q := by
  have pc : Paired ClsV [.ty "list", .ty "tuple"] [.type "list", .type "tuple"] := .cons (.ty _) (.cons (.ty _) .nil)
  cases h with
  | non => subst hb; exact ⟨_, p, _, _, _, _, rfl, hp, pc, .base .non, by rfl, q⟩
  | bl _ => subst hb; exact ⟨_, p, _, _, _, _, rfl, hp, pc, .base (.bl _), by rfl, q⟩
  | int _ => subst hb; exact ⟨_, p, _, _, _, _, rfl, hp, pc, .base (.int _), by rfl, q⟩
  | str _ => subst hb; exact ⟨_, p, _, _, _, _, rfl, hp, pc, .base (.str _), by rfl, q⟩
  | lst h1 h2 => subst hb; exact ⟨_, p, _, _, _, _, rfl, hp, pc, tyx_list (.lst h1 h2), by rfl, q⟩
  | tup h1 h2 => subst hb; exact ⟨_, p, _, _, _, _, rfl, hp, pc, tyx_tup (.tup h1 h2), by rfl, q⟩
/-- isinstance(x, list) -/
theorem w_isiL1 {d : PyData} (h : Dp K (vis M H) x d) (b : Bool) (hb : isL1 d = b) (q : Q (.bl b) H) : rIsi K [x, .ty "list"] H Q := by
  cases h with
  | non => subst hb; exact w_isi false (.base .non) (by rfl) q
  | bl _ => subst hb; exact w_isi false (.base (.bl _)) (by rfl) q
  | int _ => subst hb; exact w_isi false (.base (.int _)) (by rfl) q
  | str _ => subst hb; exact w_isi false (.base (.str _)) (by rfl) q
  | lst h1 h2 => subst hb; exact w_isi true (tyx_list (.lst h1 h2)) (by rfl) q
  | tup h1 h2 => subst hb; exact w_isi false (tyx_tup (.tup h1 h2)) (by rfl) q
/-- isinstance(x, str) -/
theorem w_isiS1 {d : PyData} (h : Dp K (vis M H) x d) (b : Bool) (hb : isS1 d = b) (q : Q (.bl b) H) : rIsi K [x, .ty "str"] H Q := by
  cases h with
  | non => subst hb; exact w_isi false (.base .non) (by rfl) q
  | bl _ => subst hb; exact w_isi false (.base (.bl _)) (by rfl) q
  | int _ => subst hb; exact w_isi false (.base (.int _)) (by rfl) q
  | str _ => subst hb; exact w_isi true (.base (.str _)) (by rfl) q
  | lst h1 h2 => subst hb; exact w_isi false (tyx_list (.lst h1 h2)) (by rfl) q
  | tup h1 h2 => subst hb; exact w_isi false (tyx_tup (.tup h1 h2)) (by rfl) q
end
/-! ## draws -/
theorem mod_two {x n : Int} (h0 : 0 ≤ x) (h1 : x < 2 * n) : x % n = if x < n then x else x - n := by
  by_cases c : x < n
  · rw [if_pos c, Int.emod_eq_of_lt h0 c]
  · rw [if_neg c]
    have e : x = x - n + n * 1 := by omega
    rw [e, Int.add_mul_emod_self_left, Int.emod_eq_of_lt (by omega) (by omega)]
    omega
/-- a pile: three ints -/
def PileAt (H : Hp) (pl : Addr) : Prop := ∃ a b c : Int, H pl = some (.lst [.int a, .int b, .int c])
theorem PileAt.ext {H H' : Hp} {pl : Addr} (e : Ext H H') (h : PileAt H pl) : PileAt H' pl := by
  obtain ⟨a, b, c, h⟩ := h
  exact ⟨a, b, c, e _ _ h⟩
theorem PileAt.some {H : Hp} {pl : Addr} (h : PileAt H pl) : H pl ≠ none := by
  obtain ⟨a, b, c, h⟩ := h
  exact some_ne h
theorem but_upd {a p : Addr} {H H' : Hp} {o : HO} (e : But a H H') (h : H p = none) : But a H (upd H' p o) := fun b u n hb => by
  rw [upd_ne (ne_of_none hb h)]; exact e b u n hb
theorem fresh_but {p l : Addr} {H H1 : Hp} (b : But p H H1) (hp : H1 p ≠ none) (h : H1 l = none) : H l = none := by
  cases e : H l with
  | none => rfl
  | some o =>
    by_cases c : l = p
    · rw [← c, h] at hp; exact absurd rfl hp
    · rw [b l o c e] at h; cases h
theorem ext_but {p : Addr} {H H1 H2 : Hp} (e : Ext H H1) (h : H p = none) (b : But p H1 H2) : Ext H H2 := fun c o hc => b c o (ne_of_none hc h) (e c o hc)
section
variable {K : PySem.W.Frag} {σ : L2.St} {H H1 : Hp} {M : List Addr} {Q : VK} {g : TG} {tt : TT} {te : TE} {vsl : List Nat} {wi : TI}
theorem vis_hideB {a l : Addr} {H H' : Hp} (e : But a H H') (m : a ∈ M) (h : H l = none) : Ext (vis M H) (vis (l :: M) H') := fun b o q => by
  obtain ⟨n, q⟩ := vis_some q
  rw [vis_out (by
    intro z
    rcases List.mem_cons.mp z with z | z
    · subst z; rw [h] at q; cases q
    · exact n z)]
  exact e b o (fun z => n (z ▸ m)) q
/-- a comprehension over a range whose turns draw from a pile -/
theorem lx_R {lo : Int} {n : Nat} (a : Addr) (Ok : PyData → Prop) (hn : n < 100000) (hM : Dom M H1) (ha : a ∈ M) (hP : PileAt H1 a)
    (turn : ∀ (D : Addr) (i : Nat) (H2 : Hp), i < n → But a H1 H2 → Dom (D :: M) H2 → H1 D = none → PileAt H2 a → ∀ (Ky : V → Hp → Prop),
      (∀ y H' d, Ok d → But a H2 H' → PileAt H' a → Dp K (vis (D :: M) H') y d → Ky y H') → g (.int (lo + i)) (wipe σ vsl) H2 fun σ2 H4 => wipe σ2 vsl = wipe σ vsl ∧ te σ2 H4 Ky)
    (q : ∀ D H' ds, ds.length = n → (∀ d ∈ ds, Ok d) → But a H1 H' → Dom M H' → PileAt H' a → H1 D = none → Lst K M H' D ds → Q (.ref D) H') : lcW (Itr lo n) g tYes te vsl σ H1 Q := by
  intro D hD
  have hDM : D ∉ M := hM.new hD
  have hDa : a ≠ D := fun z => hDM (z ▸ ha)
  refine lc_it (walk_range (lo := lo) (n := n)) (fun i H => ∃ acc ds, H D = some (.lst acc) ∧ But a H1 H ∧ acc.length = i ∧ PileAt H a ∧ (∀ d ∈ ds, Ok d) ∧ DpAll K (vis (D :: M) H) acc ds) ⟨[], [], upd_same, (ext_new hD).but, rfl, hP.ext (ext_new hD), (fun _ z => nomatch z), .nil⟩ (fun i H _ _ => trivial) ?_ ?_
  · intro i x H2 H3 hi ⟨acc, ds, h1, h2, h3, h5, h6, h4⟩ hy
    obtain ⟨rfl, rfl⟩ := hy
    have dm : Dom (D :: M) H3 := (hM.but h2 h5.some).cons (some_ne h1)
    refine turn D i H3 hi h2 dm hD h5 _ (fun y H' d hf e hp hd => ⟨acc, e _ _ (Ne.symm hDa) h1, szl (by omega), acc ++ [y], ds ++ [d], upd_same, but_upd (h2.trans e) hD, by rw [List.length_append, h3]; rfl, ?_, ?_, ?_⟩)
    · obtain ⟨u, v, w, h⟩ := hp
      exact ⟨u, v, w, by rw [upd_ne hDa]; exact h⟩
    · intro d' hd'
      rcases List.mem_append.mp hd' with z | z
      · exact h6 d' z
      · rw [List.mem_singleton.mp z]; exact hf
    · rw [vis_upd List.mem_cons_self]
      exact dpAll_append (dpAllb e (List.mem_cons_of_mem _ ha) h4) (.cons hd .nil)
  · intro H ⟨acc, ds, h1, h2, h3, h5, h6, h4⟩
    exact q D H ds (by rw [← dpAll_len h4]; exact h3) h6 h2 (hM.but h2 h5.some) h5 hD ⟨hDM, acc, h1, dpAll_ext (vis_cons M H D) h4⟩
end
end Hf

namespace Hf
open PySem PySem.Spec PyProof.Rows L2
/-! ## trees of objects, each list of them at its own place -/
mutual
inductive Tr (H : Hp) : V → PyData → List Addr → Prop where
  | non : Tr H .non .none []
  | bl (b : Bool) : Tr H (.bl b) (.bool b) []
  | int (i : Int) : Tr H (.int i) (.int i) []
  | str (x : Str) : Tr H (.str x) (.str x) []
  | lst {a : Addr} {vs : List V} {ds : List PyData} {L : List Addr} (h : H a = some (.lst vs)) (r : TrAll H vs ds L) (n : a ∉ L) : Tr H (.ref a) (.list ds) (a :: L)
  | tup {a : Addr} {vs : List V} {ds : List PyData} {L : List Addr} (h : H a = some (.tup vs)) (r : TrAll H vs ds L) : Tr H (.ref a) (.tuple ds) L
inductive TrAll (H : Hp) : List V → List PyData → List Addr → Prop where
  | nil : TrAll H [] [] []
  | cons {v : V} {d : PyData} {vs : List V} {ds : List PyData} {L L' : List Addr} (h : Tr H v d L) (r : TrAll H vs ds L') (n : ∀ a ∈ L, a ∉ L') : TrAll H (v :: vs) (d :: ds) (L ++ L')
end
mutual
theorem tr_lists {H : Hp} : ∀ {v : V} {d : PyData} {L : List Addr}, Tr H v d L → ∀ a ∈ L, ∃ xs, H a = some (.lst xs)
  | _, _, _, .non, _, h => nomatch h
  | _, _, _, .bl _, _, h => nomatch h
  | _, _, _, .int _, _, h => nomatch h
  | _, _, _, .str _, _, h => nomatch h
  | _, _, _, .lst h r _, a, m => by
    rcases List.mem_cons.mp m with z | m
    · rw [z]; exact ⟨_, h⟩
    · exact trAll_lists r a m
  | _, _, _, .tup _ r, a, m => trAll_lists r a m
theorem trAll_lists {H : Hp} : ∀ {vs : List V} {ds : List PyData} {L : List Addr}, TrAll H vs ds L → ∀ a ∈ L, ∃ xs, H a = some (.lst xs)
  | _, _, _, .nil, _, h => nomatch h
  | _, _, _, .cons h r _, a, m => by
    rcases List.mem_append.mp m with m | m
    · exact tr_lists h a m
    · exact trAll_lists r a m
end
/-- all but the objects of S stands -/
def ButS (S : List Addr) (H H' : Hp) : Prop := ∀ b o, b ∉ S → H b = some o → H' b = some o
theorem Ext.butS {S : List Addr} {H H' : Hp} (e : Ext H H') : ButS S H H' := fun b o _ h => e b o h
theorem But.butS {a : Addr} {S : List Addr} {H H' : Hp} (e : But a H H') (m : a ∈ S) : ButS S H H' := fun b o n h => e b o (fun z => n (z ▸ m)) h
theorem ButS.trans {S : List Addr} {H H1 H2 : Hp} (x : ButS S H H1) (y : ButS S H1 H2) : ButS S H H2 := fun c o n h => y c o n (x c o n h)
theorem ButS.mono {S S' : List Addr} {H H1 : Hp} (x : ButS S H H1) (s : ∀ a ∈ S, a ∈ S') : ButS S' H H1 := fun c o n h => x c o (fun z => n (s c z)) h
mutual
/-- what is changed are lists beside the tree -/
theorem tr_but {S : List Addr} {H H' : Hp} (e : ButS S H H') (t : ∀ b ∈ S, ∀ xs, H b ≠ some (.tup xs)) : ∀ {v : V} {d : PyData} {L : List Addr}, Tr H v d L → (∀ a ∈ L, a ∉ S) → Tr H' v d L
  | _, _, _, .non, _ => .non
  | _, _, _, .bl _, _ => .bl _
  | _, _, _, .int _, _ => .int _
  | _, _, _, .str _, _ => .str _
  | _, _, _, .lst h r n, s => .lst (e _ _ (s _ List.mem_cons_self) h) (trAll_but e t r fun a m => s a (List.mem_cons_of_mem _ m)) n
  | _, _, _, .tup h r, s => .tup (e _ _ (fun z => t _ z _ h) h) (trAll_but e t r s)
theorem trAll_but {S : List Addr} {H H' : Hp} (e : ButS S H H') (t : ∀ b ∈ S, ∀ xs, H b ≠ some (.tup xs)) : ∀ {vs : List V} {ds : List PyData} {L : List Addr}, TrAll H vs ds L → (∀ a ∈ L, a ∉ S) → TrAll H' vs ds L
  | _, _, _, .nil, _ => .nil
  | _, _, _, .cons h r n, s => .cons (tr_but e t h fun a m => s a (List.mem_append_left _ m)) (trAll_but e t r fun a m => s a (List.mem_append_right _ m)) n
end
theorem tr_ext {H H' : Hp} {v : V} {d : PyData} {L : List Addr} (e : Ext H H') (h : Tr H v d L) : Tr H' v d L := tr_but (S := []) e.butS (fun _ z => nomatch z) h fun _ _ z => nomatch z
theorem trAll_ext {H H' : Hp} {v : List V} {d : List PyData} {L : List Addr} (e : Ext H H') (h : TrAll H v d L) : TrAll H' v d L := trAll_but (S := []) e.butS (fun _ z => nomatch z) h fun _ _ z => nomatch z
mutual
theorem tr_dp {K : PySem.W.Frag} {M : List Addr} {H : Hp} (t : ∀ b ∈ M, ∀ xs, H b ≠ some (.tup xs)) : ∀ {v : V} {d : PyData} {L : List Addr}, Tr H v d L → (∀ a ∈ L, a ∉ M) → Dp K (vis M H) v d
  | _, _, _, .non, _ => .non
  | _, _, _, .bl _, _ => .bl _
  | _, _, _, .int _, _ => .int _
  | _, _, _, .str _, _ => .str _
  | _, _, _, .lst h r n, s => .lst (.inl (.inl (by rw [vis_out (s _ List.mem_cons_self)]; exact h))) (trAll_dp t r fun a m => s a (List.mem_cons_of_mem _ m))
  | _, _, _, .tup h r, s => .tup (.inl (.inl (by rw [vis_out (fun z => t _ z _ h)]; exact h))) (trAll_dp t r s)
theorem trAll_dp {K : PySem.W.Frag} {M : List Addr} {H : Hp} (t : ∀ b ∈ M, ∀ xs, H b ≠ some (.tup xs)) : ∀ {vs : List V} {ds : List PyData} {L : List Addr}, TrAll H vs ds L → (∀ a ∈ L, a ∉ M) → DpAll K (vis M H) vs ds
  | _, _, _, .nil, _ => .nil
  | _, _, _, .cons h r n, s => .cons (tr_dp t h fun a m => s a (List.mem_append_left _ m)) (trAll_dp t r fun a m => s a (List.mem_append_right _ m))
end
theorem tr_dp0 {K : PySem.W.Frag} {H : Hp} {v : V} {d : PyData} {L : List Addr} (h : Tr H v d L) : Dp K (vis [] H) v d := tr_dp (M := []) (fun _ z => nomatch z) h fun _ _ z => nomatch z
theorem trAll_append {H : Hp} {us : List V} {es : List PyData} {L' : List Addr} (s : TrAll H us es L') : ∀ {vs : List V} {ds : List PyData} {L : List Addr}, TrAll H vs ds L → (∀ a ∈ L, a ∉ L') → TrAll H (vs ++ us) (ds ++ es) (L ++ L')
  | _, _, _, .nil, _ => s
  | _, _, _, .cons (L := A) (L' := B) h r n, d => by
    rw [List.append_assoc]
    refine .cons h (trAll_append s r fun a m => d a (List.mem_append_right _ m)) fun a m z => ?_
    rcases List.mem_append.mp z with z | z
    · exact n a m z
    · exact d a (List.mem_append_left _ m) z
theorem trAll_len {H : Hp} : ∀ {vs : List V} {ds : List PyData} {L : List Addr}, TrAll H vs ds L → vs.length = ds.length
  | _, _, _, .nil => rfl
  | _, _, _, .cons _ r _ => by simp [trAll_len r]
theorem trAll_one {H : Hp} {v : V} {d : PyData} {L : List Addr} (h : Tr H v d L) : TrAll H [v] [d] L := by
  have := TrAll.cons h .nil (fun _ _ z => nomatch z)
  rw [List.append_nil] at this
  exact this
theorem trAll_two {H : Hp} {v v' : V} {d d' : PyData} {L L' : List Addr} (h : Tr H v d L) (h' : Tr H v' d' L') (n : ∀ a ∈ L, a ∉ L') : TrAll H [v, v'] [d, d'] (L ++ L') := .cons h (trAll_one h') n
theorem tr_nums {H : Hp} : ∀ ns : List Nat, TrAll H (ns.map fun (n : Nat) => V.int (n : Int)) (dNums ns) []
  | [] => .nil
  | n :: r => .cons (L := []) (.int _) (tr_nums r) fun _ z => nomatch z
/-- new lists: none of them known ahead -/
def Fresh (H : Hp) (L : List Addr) : Prop := ∀ a ∈ L, H a = none
theorem Fresh.nil {H : Hp} : Fresh H [] := fun _ h => nomatch h
theorem Fresh.back {H H' : Hp} {L : List Addr} (e : Ext H H') (h : Fresh H' L) : Fresh H L := fun a m => fresh_back e (h a m)
theorem Fresh.app {H : Hp} {L L' : List Addr} (h : Fresh H L) (h' : Fresh H L') : Fresh H (L ++ L') := fun a m => by
  rcases List.mem_append.mp m with m | m
  · exact h a m
  · exact h' a m
theorem Fresh.cons {H : Hp} {a : Addr} {L : List Addr} (h : H a = none) (h' : Fresh H L) : Fresh H (a :: L) := fun b m => by
  rcases List.mem_cons.mp m with z | m
  · rw [z]; exact h
  · exact h' b m
theorem tr_apart {H : Hp} {v : V} {d : PyData} {L L' : List Addr} (h : Tr H v d L) (f : Fresh H L') : ∀ a ∈ L, a ∉ L' := fun a m z => by
  obtain ⟨xs, e⟩ := tr_lists h a m
  rw [f a z] at e; cases e
theorem trAll_apart {H : Hp} {v : List V} {d : List PyData} {L L' : List Addr} (h : TrAll H v d L) (f : Fresh H L') : ∀ a ∈ L, a ∉ L' := fun a m z => by
  obtain ⟨xs, e⟩ := trAll_lists h a m
  rw [f a z] at e; cases e
section
variable {K : PySem.W.Frag} {σ : L2.St} {H H1 : Hp} {M : List Addr} {Q : VK} {g : TG} {tt : TT} {te : TE} {vsl : List Nat} {wi : TI}
/-- a comprehension whose items are new trees -/
theorem lt_core {J : It} {n : Nat} {G : Hp → Prop} {Y : Nat → Hp → V → Hp → Prop} (W : Walk J n G Y) (f : Nat → PyData) (hn : n < 100000) (hG : ∀ H2, Ext H1 H2 → G H2)
    (turn : ∀ (D : Addr) (i : Nat) (x : V) (H2 H3 : Hp), i < n → Ext H1 H2 → H2 D ≠ none → H1 D = none → Y i H2 x H3 → ∀ (Ky : V → Hp → Prop),
      (∀ y H' L, Ext H2 H' → Tr H' y (f i) L → Fresh H2 L → Ky y H') → g x (wipe σ vsl) H3 fun σ2 H4 => wipe σ2 vsl = wipe σ vsl ∧ te σ2 H4 Ky)
    (q : ∀ D H' L, Ext H1 H' → H1 D = none → Tr H' (.ref D) (.list ((List.range n).map f)) L → Fresh H1 L → Q (.ref D) H') :
    lcW J g tYes te vsl σ H1 Q := by
  intro D hD
  refine lc_it W (fun i H => ∃ acc L, H D = some (.lst acc) ∧ Ext H1 H ∧ acc.length = i ∧ TrAll H acc ((List.range i).map f) L ∧ D ∉ L ∧ Fresh H1 L) ⟨[], [], upd_same, ext_new hD, rfl, .nil, (fun z => nomatch z), .nil⟩ (fun i H _ ⟨_, _, _, e, _⟩ => hG H e) ?_ ?_
  · intro i x H2 H3 hi ⟨acc, L, h1, h2, h3, h4, h5, h6⟩ hy
    refine turn D i x H2 H3 hi h2 (some_ne h1) hD hy _ (fun y H' L' e ht hf => ⟨acc, e _ _ h1, szl (by omega), acc ++ [y], L ++ L', upd_same, ext_mut (h2.trans e) hD, by rw [List.length_append, h3]; rfl, ?_, ?_, h6.app (hf.back h2)⟩)
    · have nD : D ∉ L' := fun z => by rw [hf D z] at h1; cases h1
      have bD : ButS [D] H' (upd H' D (.lst (acc ++ [y]))) := fun b o n hb => by
        rw [upd_ne (fun z => n (List.mem_singleton.mpr z))]; exact hb
      have tD : ∀ b ∈ [D], ∀ xs, H' b ≠ some (.tup xs) := fun b hb xs z => by
        rw [List.mem_singleton.mp hb, e _ _ h1] at z; cases z
      rw [List.range_succ, List.map_append]
      refine trAll_append (trAll_one (tr_but bD tD ht fun a m z => nD (List.mem_singleton.mp z ▸ m))) (trAll_but bD tD (trAll_ext e h4) fun a m z => h5 (List.mem_singleton.mp z ▸ m)) (trAll_apart h4 hf)
    · intro z
      rcases List.mem_append.mp z with z | z
      · exact h5 z
      · rw [hf D z] at h1; cases h1
  · intro H ⟨acc, L, h1, h2, h3, h4, h5, h6⟩
    exact q D H (D :: L) h2 hD (.lst h1 h4 h5) (h6.cons hD)
theorem range_map {α β : Type} (f : α → β) (d : β) : ∀ (ds : List α), (List.range ds.length).map (fun i => (ds[i]?.map f).getD d) = ds.map f
  | [] => rfl
  | a :: r => by
    rw [List.length_cons, List.range_succ_eq_map, List.map_cons, List.map_map, List.map_cons]
    have ih := range_map f d r
    have e : ((fun i => (((a :: r)[i]?).map f).getD d) ∘ Nat.succ) = fun i => ((r[i]?).map f).getD d := by
      funext i; simp
    rw [e, ih]
    simp
theorem lt_L {α : Type} {a : Addr} {xs : List V} (l : List α) (enc h : α → PyData) (hn : l.length < 100000) (hL : SqL K (vis M H1) a xs) (hds : DpAll K (vis M H1) xs (l.map enc))
    (turn : ∀ (D : Addr) (i : Nat) (z : α) (x : V) (H2 : Hp), l[i]? = some z → Ext H1 H2 → H1 D = none → Dp K (vis M H2) x (enc z) → ∀ (Ky : V → Hp → Prop),
      (∀ y H' L, Ext H2 H' → Tr H' y (h z) L → Fresh H2 L → Ky y H') → g x (wipe σ vsl) H2 fun σ2 H4 => wipe σ2 vsl = wipe σ vsl ∧ te σ2 H4 Ky)
    (q : ∀ D H' L, Ext H1 H' → H1 D = none → Tr H' (.ref D) (.list (l.map h)) L → Fresh H1 L → Q (.ref D) H') : lcW (Itl K a) g tYes te vsl σ H1 Q := by
  have hlen : xs.length = l.length := by rw [dpAll_len hds, List.length_map]
  refine lt_core (walk_list (K := K) (a := a) (xs := xs)) (fun i => (l[i]?.map h).getD .none) (by omega) (fun H2 e => sql_ext e (sqlv hL)) ?_ ?_
  · intro D i x H2 H3 hi e _ hD hy Ky k1
    obtain ⟨rfl, hx⟩ := hy
    have hl : i < l.length := by omega
    have hz : l[i]? = some l[i] := List.getElem?_eq_getElem hl
    obtain ⟨v, h1, h2⟩ := dpAll_get (i := i) (d := enc l[i]) hds (by rw [List.getElem?_map, hz]; rfl)
    rw [hx] at h1
    have h1 := Option.some.inj h1
    subst h1
    refine turn D i l[i] x H3 hz e hD (dpx e h2) Ky fun y H' L e' t f => k1 y H' L e' ?_ f
    rw [hz]; exact t
  · intro D H' L e hD t f
    rw [hlen, range_map] at t
    exact q D H' L e hD t f
end
theorem tr_butp {p : Addr} {H H' : Hp} {v : V} {d : PyData} {L : List Addr} (b : But p H H') (hp : PileAt H p) (n : p ∉ L) (h : Tr H v d L) : Tr H' v d L :=
  tr_but (S := [p]) (b.butS List.mem_cons_self) (fun b hb xs z => by
    obtain ⟨_, _, _, e⟩ := hp
    rw [List.mem_singleton.mp hb, e] at z; cases z) h fun a m z => n (List.mem_singleton.mp z ▸ m)
theorem trAll_butp {p : Addr} {H H' : Hp} {v : List V} {d : List PyData} {L : List Addr} (b : But p H H') (hp : PileAt H p) (n : p ∉ L) (h : TrAll H v d L) : TrAll H' v d L :=
  trAll_but (S := [p]) (b.butS List.mem_cons_self) (fun b hb xs z => by
    obtain ⟨_, _, _, e⟩ := hp
    rw [List.mem_singleton.mp hb, e] at z; cases z) h fun a m z => n (List.mem_singleton.mp z ▸ m)
theorem Fresh.backB {p : Addr} {H H' : Hp} {L : List Addr} (b : But p H H') (hp : H' p ≠ none) (h : Fresh H' L) : Fresh H L := fun a m => fresh_but b hp (h a m)
theorem Fresh.not {H : Hp} {L : List Addr} {p : Addr} (h : Fresh H L) (hp : H p ≠ none) : p ∉ L := fun m => hp (h p m)
section
variable {K : PySem.W.Frag} {σ : L2.St} {H H1 : Hp} {M : List Addr} {Q : VK} {g : TG} {tt : TT} {te : TE} {vsl : List Nat}
/-- a comprehension over a range whose turns draw new trees from a pile -/
theorem lt_X {lo : Int} {n : Nat} (pl : Addr) (Ok : PyData → Prop) (hn : n < 100000) (hP : PileAt H1 pl)
    (turn : ∀ (D : Addr) (i : Nat) (H2 : Hp), i < n → But pl H1 H2 → H1 D = none → PileAt H2 pl → ∀ (Ky : V → Hp → Prop),
      (∀ y H' L d, Ok d → But pl H2 H' → PileAt H' pl → Tr H' y d L → Fresh H2 L → Ky y H') → g (.int (lo + i)) (wipe σ vsl) H2 fun σ2 H4 => wipe σ2 vsl = wipe σ vsl ∧ te σ2 H4 Ky)
    (q : ∀ D H' L ds, ds.length = n → (∀ d ∈ ds, Ok d) → But pl H1 H' → PileAt H' pl → H1 D = none → Tr H' (.ref D) (.list ds) L → Fresh H1 L → Q (.ref D) H') : lcW (Itr lo n) g tYes te vsl σ H1 Q := by
  intro D hD
  have nDp : D ≠ pl := fun z => hP.some (z ▸ hD)
  refine lc_it (walk_range (lo := lo) (n := n)) (fun i H => ∃ acc ds L, H D = some (.lst acc) ∧ But pl H1 H ∧ acc.length = i ∧ PileAt H pl ∧ (∀ d ∈ ds, Ok d) ∧ TrAll H acc ds L ∧ D ∉ L ∧ Fresh H1 L) ⟨[], [], [], upd_same, (ext_new hD).but, rfl, hP.ext (ext_new hD), (fun _ z => nomatch z), .nil, (fun z => nomatch z), .nil⟩ (fun i H _ _ => trivial) ?_ ?_
  · intro i x H2 H3 hi ⟨acc, ds, L, h1, h2, h3, h4, h5, h6, h7, h8⟩ hy
    obtain ⟨rfl, rfl⟩ := hy
    refine turn D i H3 hi h2 hD h4 _ (fun y H' L' d od e hp ht hf => ⟨acc, e _ _ nDp h1, szl (by omega), acc ++ [y], ds ++ [d], L ++ L', upd_same, but_upd (h2.trans e) hD, by rw [List.length_append, h3]; rfl, ?_, ?_, ?_, ?_, h8.app (hf.backB h2 h4.some)⟩)
    · obtain ⟨u, v, w, h⟩ := hp
      exact ⟨u, v, w, by rw [upd_ne (Ne.symm nDp)]; exact h⟩
    · intro d' hd'
      rcases List.mem_append.mp hd' with z | z
      · exact h5 d' z
      · rw [List.mem_singleton.mp z]; exact od
    · have nD : D ∉ L' := hf.not (some_ne h1)
      have bD : ButS [D] H' (upd H' D (.lst (acc ++ [y]))) := fun b o n hb => by
        rw [upd_ne (fun z => n (List.mem_singleton.mpr z))]; exact hb
      have tD : ∀ b ∈ [D], ∀ xs, H' b ≠ some (.tup xs) := fun b hb xs z => by
        rw [List.mem_singleton.mp hb, e _ _ nDp h1] at z; cases z
      exact trAll_append (trAll_one (tr_but bD tD ht fun a m z => nD (List.mem_singleton.mp z ▸ m))) (trAll_but bD tD (trAll_butp e h4 (h8.not hP.some) h6) fun a m z => h7 (List.mem_singleton.mp z ▸ m)) (trAll_apart h6 hf)
    · intro z
      rcases List.mem_append.mp z with z | z
      · exact h7 z
      · exact hf.not (some_ne h1) z
  · intro H ⟨acc, ds, L, h1, h2, h3, h4, h5, h6, h7, h8⟩
    exact q D H (D :: L) ds (by rw [← trAll_len h6]; exact h3) h5 h2 h4 hD (.lst h1 h6 h7) (h8.cons hD)
end
section
variable {H : Hp} {Q : VK}
theorem w_newTt {xs : List V} {ds : List PyData} {L : List Addr} (h : TrAll H xs ds L) (hl : xs.length ≤ 100000) (q : ∀ p H', Ext H H' → H p = none → H' p = some (.tup xs) → Tr H' (.ref p) (.tuple ds) L → Q (.ref p) H') : newT xs H Q := ⟨sz hl, fun p hp =>
  q p _ (ext_new hp) hp upd_same (.tup upd_same (trAll_ext (ext_new hp) h))⟩
theorem w_newLt {xs : List V} {ds : List PyData} {L : List Addr} (h : TrAll H xs ds L) (hl : xs.length ≤ 100000) (q : ∀ p H', Ext H H' → H p = none → H' p = some (.lst xs) → Tr H' (.ref p) (.list ds) (p :: L) → Q (.ref p) H') : newL xs H Q := ⟨sz hl, fun p hp =>
  q p _ (ext_new hp) hp upd_same (.lst upd_same (trAll_ext (ext_new hp) h) fun m => by
    obtain ⟨z, e⟩ := trAll_lists h p m
    rw [hp] at e; cases e)⟩
end
/-! ## all parts of a thing, from the last on -/
mutual
def szD : PyData → Nat
  | .list ds => szA ds + 1
  | .tuple ds => szA ds + 1
  | .dict _ => 1
  | .none => 1
  | .bool _ => 1
  | .int _ => 1
  | .str _ => 1
def szA : List PyData → Nat
  | [] => 0
  | d :: r => szD d + szA r
end
theorem szD_pos (d : PyData) : 1 ≤ szD d := by cases d <;> simp [szD]
theorem szA_app : ∀ a b : List PyData, szA (a ++ b) = szA a + szA b
  | [], b => by simp [szA]
  | d :: r, b => by
    have := szA_app r b
    rw [List.cons_append, szA, szA, this]; omega
theorem szA_len : ∀ a : List PyData, a.length ≤ szA a
  | [] => Nat.zero_le _
  | d :: r => by
    have := szA_len r
    have := szD_pos d
    rw [List.length_cons, szA]; omega
/-- the parts of a list or a tuple -/
def kids : PyData → Option (List PyData)
  | .list ds => some ds
  | .tuple ds => some ds
  | _ => none
def flatS : Nat → List PyData → List PyData → List PyData
  | 0, _, f => f
  | n + 1, l, f => match l.getLast? with
    | none => f
    | some d => match kids d with
      | some ds => flatS n (l.dropLast ++ ds) f
      | none => flatS n l.dropLast (f ++ [d])
def flatD (d : PyData) : List PyData := flatS (szD d) [d] []
/-- no part of it is a dict -/
inductive Leaf : PyData → Prop where
  | non : Leaf .none
  | bool (b : Bool) : Leaf (.bool b)
  | int (i : Int) : Leaf (.int i)
  | str (x : Str) : Leaf (.str x)
theorem dp_kids {K : PySem.W.Frag} {G : Hp} {v : V} {d : PyData} (h : Dp K G v d) (k : kids d = none) : Leaf d := by
  cases h with
  | non => exact .non
  | bl b => exact .bool b
  | int i => exact .int i
  | str x => exact .str x
  | lst => cases k
  | tup => cases k
theorem dp_leaf {K K' : PySem.W.Frag} {G G' : Hp} {v : V} {d : PyData} (l : Leaf d) (h : Dp K G v d) : Dp K' G' v d := by
  cases l with
  | non => cases h; exact .non
  | bool b => cases h; exact .bl b
  | int i => cases h; exact .int i
  | str x => cases h; exact .str x
theorem dpAll_leaf {K K' : PySem.W.Frag} {G G' : Hp} : ∀ {vs : List V} {ds : List PyData}, (∀ d ∈ ds, Leaf d) → DpAll K G vs ds → DpAll K' G' vs ds
  | _, _, _, .nil => .nil
  | _, _, l, .cons h r => .cons (dp_leaf (l _ List.mem_cons_self) h) (dpAll_leaf (fun d m => l d (List.mem_cons_of_mem _ m)) r)
theorem dpAll_snoc {K : PySem.W.Frag} {G : Hp} {vs : List V} {ds : List PyData} (h : DpAll K G vs ds) (n : ds ≠ []) : ∃ us u es e, vs = us ++ [u] ∧ ds = es ++ [e] ∧ DpAll K G us es ∧ Dp K G u e := by
  have hv : vs ≠ [] := fun z => n (List.eq_nil_of_length_eq_zero (by rw [← dpAll_len h, z]; rfl))
  refine ⟨vs.dropLast, vs.getLast hv, ds.dropLast, ds.getLast n, (List.dropLast_concat_getLast hv).symm, (List.dropLast_concat_getLast n).symm, ?_, ?_⟩
  · rw [List.dropLast_eq_take, List.dropLast_eq_take, dpAll_len h]
    exact dpAll_take _ h
  · have hl : ds[ds.length - 1]? = some (ds.getLast n) := by rw [← List.getLast?_eq_getElem?, List.getLast?_eq_some_getLast n]
    obtain ⟨v, e1, e2⟩ := dpAll_get h hl
    have : v = vs.getLast hv := by
      rw [← dpAll_len h, ← List.getLast?_eq_getElem?, List.getLast?_eq_some_getLast hv] at e1
      exact (Option.some.inj e1).symm
    rw [← this]; exact e2
section
variable {K : PySem.W.Frag} {H : Hp} {Q : VK} {M : List Addr}
theorem w_popB {p : Addr} {us : List V} {u : V} (h : H p = some (.lst (us ++ [u]))) (q : ∀ H', But p H H' → H' p = some (.lst us) → Q u H') : rPop (.ref p) [] H Q := by
  refine ⟨p, _, u, rfl, rfl, h, by simp, ?_⟩
  rw [List.dropLast_concat]
  exact q _ (fun b o n e => by rw [upd_ne n]; exact e) upd_same
theorem w_catR {p p' : Addr} {xs zs : List V} (h1 : H p = some (.lst xs)) (h2 : H p' = some (.lst zs)) (hz : xs.length + zs.length ≤ 100000) (q : ∀ l H', H l = none → Ext H H' → H' l = some (.lst (xs ++ zs)) → Q (.ref l) H') : rCat (.ref p) (.ref p') H Q :=
  ⟨p, p', xs, zs, rfl, rfl, h1, h2, sz hz, fun l hl => q l _ hl (ext_new hl) upd_same⟩
theorem kids_dp {v : V} {d : PyData} {ds : List PyData} (h : Dp K (vis M H) v d) (k : kids d = some ds) : Dp K (vis M H) v (.list ds) ∨ Dp K (vis M H) v (.tuple ds) := by
  cases h with
  | non => cases k
  | bl _ => cases k
  | int _ => cases k
  | str _ => cases k
  | lst h1 h2 => cases k; exact .inl (.lst h1 h2)
  | tup h1 h2 => cases k; exact .inr (.tup h1 h2)
theorem trAll_snoc {H : Hp} : ∀ {vs : List V} {ds : List PyData} {L : List Addr}, TrAll H vs ds L → ds ≠ [] → ∃ us u es e L1 L2, vs = us ++ [u] ∧ ds = es ++ [e] ∧ L = L1 ++ L2 ∧ TrAll H us es L1 ∧ Tr H u e L2 ∧ ∀ a ∈ L1, a ∉ L2
  | _, _, _, .nil, n => absurd rfl n
  | v :: vs, d :: ds, _, .cons (L := A) (L' := B) h r n, _ => by
    by_cases c : ds = []
    · subst c
      cases r
      exact ⟨[], v, [], d, [], A, rfl, rfl, by simp, .nil, h, fun _ z => nomatch z⟩
    · obtain ⟨us, u, es, e, L1, L2, rfl, rfl, rfl, h1, h2, h3⟩ := trAll_snoc r c
      refine ⟨v :: us, u, d :: es, e, A ++ L1, L2, rfl, rfl, by rw [List.append_assoc], .cons h h1 fun a m z => n a m (List.mem_append_left _ z), h2, fun a m z => ?_⟩
      rcases List.mem_append.mp m with m | m
      · exact n a m (List.mem_append_right _ z)
      · exact h3 a m z
mutual
theorem tr_nodup {H : Hp} : ∀ {v : V} {d : PyData} {L : List Addr}, Tr H v d L → L.Nodup
  | _, _, _, .non => .nil
  | _, _, _, .bl _ => .nil
  | _, _, _, .int _ => .nil
  | _, _, _, .str _ => .nil
  | _, _, _, .lst _ r n => List.nodup_cons.mpr ⟨n, trAll_nodup r⟩
  | _, _, _, .tup _ r => trAll_nodup r
theorem trAll_nodup {H : Hp} : ∀ {vs : List V} {ds : List PyData} {L : List Addr}, TrAll H vs ds L → L.Nodup
  | _, _, _, .nil => .nil
  | _, _, _, .cons h r n => List.nodup_append.mpr ⟨tr_nodup h, trAll_nodup r, fun a m b m' z => n a m (z ▸ m')⟩
end
theorem tr_leaf {H : Hp} {v : V} {d : PyData} {L : List Addr} (h : Tr H v d L) (k : kids d = none) : L = [] := by
  cases h with
  | non => rfl
  | bl _ => rfl
  | int _ => rfl
  | str _ => rfl
  | lst => cases k
  | tup => cases k
theorem kids_lt {d : PyData} {ds : List PyData} (k : kids d = some ds) : isLT d = true := by cases d <;> first | rfl | cases k
theorem kids_no {d : PyData} (k : kids d = none) : isLT d = false := by cases d <;> first | rfl | cases k
theorem kids_sz {d : PyData} {ds : List PyData} (k : kids d = some ds) : szD d = szA ds + 1 := by
  cases d with
  | list l => cases k; rfl
  | tuple l => cases k; rfl
  | _ => cases k
theorem kids_shp {k : Nat} {d : PyData} {ds : List PyData} (h : Shp k d) (e : kids d = some ds) : ∀ x ∈ ds, Shp k x := by
  have key : ∀ {xs : List PyData} {j : Nat}, PyData.canLayAll0 xs = true → PyData.depthAll xs ≤ j → ∀ x ∈ xs, Shp j x := by
    intro xs
    induction xs with
    | nil => intro j _ _ x hx; cases hx
    | cons a r ih =>
      intro j h1 h2 x hx
      have h1' : (a.canLay0 && PyData.canLayAll0 r) = true := h1
      have h2' : max a.depth (PyData.depthAll r) ≤ j := h2
      obtain ⟨c1, c2⟩ := Bool.and_eq_true_iff.mp h1'
      rcases List.mem_cons.mp hx with rfl | hx
      · exact ⟨c1, by omega⟩
      · exact ih c2 (by omega) x hx
  cases d with
  | list l => cases e; exact key h.1 (Nat.le_trans (Nat.le_succ _) h.2)
  | tuple l => cases e; exact key h.1 (Nat.le_trans (Nat.le_succ _) h.2)
  | _ => cases e
theorem flatS_nil (n : Nat) (f : List PyData) : flatS n [] f = f := by cases n <;> rfl
theorem flatS_kids {n : Nat} {l ds f : List PyData} {d : PyData} (k : kids d = some ds) : flatS (n + 1) (l ++ [d]) f = flatS n (l ++ ds) f := by
  rw [flatS, List.getLast?_concat]
  dsimp only
  rw [k, List.dropLast_concat]
theorem flatS_leaf {n : Nat} {l f : List PyData} {d : PyData} (k : kids d = none) : flatS (n + 1) (l ++ [d]) f = flatS n l (f ++ [d]) := by
  rw [flatS, List.getLast?_concat]
  dsimp only
  rw [k, List.dropLast_concat]
theorem dp_hid {p : Addr} {vs : List V} {ds : List PyData} (h : H p = some (.lst vs)) (n : p ∉ M) (r : DpAll K (vis (p :: M) H) vs ds) : Dp K (vis M H) (.ref p) (.list ds) :=
  .lst (.inl (.inl (by rw [vis_out n]; exact h))) (dpAll_ext (vis_cons M H p) r)
end
/-! ## ints and texts, in lists and tuples -/
mutual
def isIS : PyData → Bool
  | .int _ => true
  | .str _ => true
  | .list ds => isISA ds
  | .tuple ds => isISA ds
  | .none => false
  | .bool _ => false
  | .dict _ => false
def isISA : List PyData → Bool
  | [] => true
  | d :: r => isIS d && isISA r
end
theorem isISA_mem : ∀ {ds : List PyData}, isISA ds = true → ∀ d ∈ ds, isIS d = true
  | [], _, _, h => nomatch h
  | a :: r, h, d, m => by
    obtain ⟨h1, h2⟩ := Bool.and_eq_true_iff.mp (show (isIS a && isISA r) = true from h)
    rcases List.mem_cons.mp m with rfl | m
    · exact h1
    · exact isISA_mem h2 d m
theorem isISA_of : ∀ {ds : List PyData}, (∀ d ∈ ds, isIS d = true) → isISA ds = true
  | [], _ => rfl
  | a :: r, h => by
    show (isIS a && isISA r) = true
    rw [h a List.mem_cons_self, isISA_of fun d m => h d (List.mem_cons_of_mem _ m)]; rfl
theorem isIS_kids {d : PyData} {ds : List PyData} (h : isIS d = true) (k : kids d = some ds) : ∀ e ∈ ds, isIS e = true := by
  cases d with
  | list l => cases k; exact isISA_mem h
  | tuple l => cases k; exact isISA_mem h
  | _ => cases k
theorem depth_kids {d : PyData} {ds : List PyData} {n : Nat} (k : kids d = some ds) (h : d.depth < n + 1) : ∀ e ∈ ds, e.depth < n := by
  have key : ∀ xs : List PyData, PyData.depthAll xs < n → ∀ e ∈ xs, e.depth < n := by
    intro xs
    induction xs with
    | nil => intro _ e he; cases he
    | cons a r ih =>
      intro h e he
      have h' : max a.depth (PyData.depthAll r) < n := h
      rcases List.mem_cons.mp he with rfl | he
      · omega
      · exact ih (by omega) e he
  cases d with
  | list l => cases k; exact key _ (Nat.lt_of_succ_lt_succ h)
  | tuple l => cases k; exact key _ (Nat.lt_of_succ_lt_succ h)
  | _ => cases k
section
variable {K : PySem.W.Frag} {σ : L2.St} {H H1 : Hp} {M : List Addr} {Q : VK} {g : TG} {tt : TT} {te : TE} {vsl : List Nat}
theorem w_eqB {a b : Bool} (q : Q (.bl (decide (a = b))) H) : rEq (.bl a) (.bl b) H Q := w_eq rfl (by
  have e : decide (V.bl a = V.bl b) = decide (a = b) := by cases a <;> cases b <;> rfl
  rw [e]; exact q)
theorem w_neB {a b : Bool} (q : Q (.bl (!decide (a = b))) H) : rNe (.bl a) (.bl b) H Q := w_ne rfl (by
  have e : decide (V.bl a = V.bl b) = decide (a = b) := by cases a <;> cases b <;> rfl
  rw [e]; exact q)
def iZipAR (K : PySem.W.Frag) (vs : List V) (H : Hp) (R : It → Hp → Prop) : Prop := ∃ a b xs ys, vs = [.ref a, .ref b] ∧ ((SqL K H a xs ∧ SqL K H b ys ∧ R (Itz K a b) H) ∨ (SqT K H a xs ∧ SqT K H b ys ∧ R (RZ.ItzT K a b) H))
theorem i_zipA {ta : TA} {R : It → Hp → Prop} (q : ta σ H fun vs H1 => iZipAR K vs H1 R) : RZ.iZipA K ta σ H R := q
theorem walk_zT {a b : Addr} {xs ys : List V} {n : Nat} (e1 : xs.length = n) (e2 : ys.length = n) : Walk (RZ.ItzT K a b) n (fun G => SqT K G a xs ∧ SqT K G b ys) (YPair (fun j => xs[j]?) (fun j => ys[j]?)) where
  goes i G hi z := ⟨xs, ys, xs[i]'(by omega), ys[i]'(by omega), z.1, z.2, List.getElem?_eq_getElem _, List.getElem?_eq_getElem _⟩
  stops G z := ⟨xs, ys, z.1, z.2, .inl (by omega)⟩
  yields i G v G' _ z y := by
    obtain ⟨T, u, w, q1, q2, q3, q4, q5⟩ := y
    exact ⟨T, u, w, q1, q2, q3, q4 xs z.1, q5 ys z.2⟩
/-- zip of two things alike: no turn lets anything by -/
theorem lz_none {J : It} {xs ys : List V} {ds : List PyData} {G : Hp → Prop} (W : Walk J ds.length G (YPair (fun i => xs[i]?) (fun i => ys[i]?))) (hG : ∀ H2, Ext H1 H2 → G H2) (hn : ds.length < 100000) (hM : Dom M H1) (hx : DpAll K (vis M H1) xs ds) (hy : DpAll K (vis M H1) ys ds)
    (turn : ∀ (D : Addr) (z : PyData) (T : Addr) (x y : V) (H2 : Hp), z ∈ ds → Ext H1 H2 → Dom (D :: M) H2 → SqT K H2 T [x, y] → Dp K (vis (D :: M) H2) x z → Dp K (vis (D :: M) H2) y z → ∀ (Ky : V → Hp → Prop) (Kn : Hp → Prop), (∀ H', Ext H2 H' → Kn H') →
      g (.ref T) (wipe σ vsl) H2 fun σ2 H4 => wipe σ2 vsl = wipe σ vsl ∧ tt σ2 H4 fun b H5 => if b = true then te σ2 H5 Ky else Kn H5)
    (q : ∀ D H', Ext H1 H' → Dom M H' → Lst K M H' D [] → Q (.ref D) H') : lcW J g tt te vsl σ H1 Q := by
  refine lc_core' (M := M) (K := K) W (fun _ => none) hn hM hG ?_ ?_
  · intro D i v H2 H3 hi e dm hD hv Ky Kn _ k2
    obtain ⟨T, x, y, rfl, hT, rfl, h1, h2⟩ := hv
    have hz : ds[i]? = some ds[i] := List.getElem?_eq_getElem hi
    obtain ⟨u, a1, a2⟩ := dpAll_get hx hz
    obtain ⟨w, b1, b2⟩ := dpAll_get hy hz
    have h1 : xs[i]? = some x := h1
    have h2 : ys[i]? = some y := h2
    rw [h1] at a1
    rw [h2] at b1
    cases a1
    cases b1
    have e3 := ext_new (o := .tup [x, y]) hT
    exact turn D ds[i] T x y _ (List.getElem_mem hi) (e.trans e3) (dm.ext e3) (.inl (.inl upd_same)) (dpx e3 (dp_ext (vis_hide e hD) a2)) (dpx e3 (dp_ext (vis_hide e hD) b2)) Ky Kn fun H' e' => k2 rfl H' (e3.trans e')
  · intro D H' e dm hD hd
    rw [show (List.range ds.length).filterMap (fun _ => (none : Option PyData)) = [] by simp] at hd
    exact q D H' e dm hd
end
/-! ## building trees, one word an expression -/
def Bld (σ : L2.St) (te : TE) (d : PyData) : Prop := ∀ (H : Hp) (Q : VK), (∀ v H' L, Ext H H' → Tr H' v d L → Fresh H L → Q v H') → te σ H Q
def BldA (σ : L2.St) (ta : TA) (ds : List PyData) : Prop := ∀ (H : Hp) (Q : List V → Hp → Prop), (∀ vs H' L, Ext H H' → TrAll H' vs ds L → Fresh H L → Q vs H') → ta σ H Q
section
variable {σ : L2.St} {te : TE} {ta : TA} {d : PyData} {ds : List PyData}
theorem bld_int {i : Int} : Bld σ (tC (.int i)) (.int i) := fun H Q q => q _ H [] (Ext.refl _) (.int i) .nil
theorem bld_str {x : Str} : Bld σ (tC (.str x)) (.str x) := fun H Q q => q _ H [] (Ext.refl _) (.str x) .nil
theorem bldA_nil : BldA σ tNil [] := fun H Q q => q _ H [] (Ext.refl _) .nil .nil
theorem bldA_cons (h : Bld σ te d) (r : BldA σ ta ds) : BldA σ (tCons te ta) (d :: ds) := fun H Q q => w_cons (h H _ fun v H1 L1 e1 t1 f1 => r H1 _ fun vs H2 L2 e2 t2 f2 =>
  q _ H2 (L1 ++ L2) (e1.trans e2) (.cons (tr_ext e2 t1) t2 (tr_apart t1 f2)) (f1.app (f2.back e1)))
theorem bld_tup (h : BldA σ ta ds) (l : ds.length ≤ 1000) : Bld σ (tTup ta) (.tuple ds) := fun H Q q => w_tup (h H _ fun vs H1 L1 e1 t1 f1 => w_newTt t1 (by rw [trAll_len t1]; omega) fun p H2 e2 hp h2 t2 => q _ H2 L1 (e1.trans e2) t2 f1)
theorem bld_lst (h : BldA σ ta ds) (l : ds.length ≤ 1000) : Bld σ (tLst ta) (.list ds) := fun H Q q => w_lst (h H _ fun vs H1 L1 e1 t1 f1 => w_newLt t1 (by rw [trAll_len t1]; omega) fun p H2 e2 hp h2 t2 => q _ H2 (p :: L1) (e1.trans e2) t2 (f1.cons (fresh_back e1 hp)))
theorem trAll_repl {H : Hp} {vs : List V} {ds : List PyData} (h : TrAll H vs ds []) : ∀ k : Nat, TrAll H (List.replicate k vs).flatten (List.replicate k ds).flatten []
  | 0 => .nil
  | k + 1 => by
    rw [List.replicate_succ, List.replicate_succ, List.flatten_cons, List.flatten_cons]
    exact trAll_append (L := []) (trAll_repl h k) h fun _ z => nomatch z
/-- [a pair of numbers] * k -/
theorem bld_rep {a b : Int} {k : Nat} (hk : k ≤ 1000) : Bld σ (tOp rRep (tLst (tCons (tTup (tCons (tC (.int a)) (tCons (tC (.int b)) tNil))) tNil)) (tC (.int (k : Int)))) (.list (List.replicate k [PyData.tuple [.int a, .int b]]).flatten) := fun H Q q => by
  refine w_op (w_lst (w_cons (w_tup (w_cons (w_c (w_cons (w_c (w_nil ?_))))))))
  refine w_newTR (by exact Nat.le_of_ble_eq_true rfl) fun p H1 hp e1 h1 => ?_
  refine w_nil ?_
  refine w_newR (by exact Nat.le_of_ble_eq_true rfl) fun p2 H2 hp2 e2 h2 => ?_
  have t2 : TrAll H2 [.ref p] [PyData.tuple [.int a, .int b]] [] := trAll_one (.tup (e2 _ _ h1) (.cons (L := []) (.int a) (.cons (L := []) (.int b) .nil fun _ z => nomatch z) fun _ z => nomatch z))
  refine ⟨p2, (k : Int), _, rfl, rfl, h2, by omega, by omega, sz (by rw [Int.toNat_natCast]; show 1 * k ≤ _; omega), fun p3 hp3 => ?_⟩
  rw [Int.toNat_natCast]
  exact q _ _ [p3] ((e1.trans e2).trans (ext_new hp3)) (.lst upd_same (trAll_ext (ext_new hp3) (trAll_repl t2 k)) fun z => nomatch z) (Fresh.nil.cons (fresh_back (e1.trans e2) hp3))
/-- a list and a new one behind it -/
theorem bld_cat {i : Nat} {p : Addr} {es : List PyData} {L : List Addr} {H : Hp} {Q : VK} (hσ : σ[i]? = some (some (.ref p))) (h : Tr H (.ref p) (.list es) L) (b : Bld σ te (.list ds)) (l : es.length + ds.length ≤ 1000)
    (q : ∀ p' H' L', Ext H H' → Tr H' (.ref p') (.list (es ++ ds)) L' → (∀ H0, Ext H0 H → Fresh H0 L → Fresh H0 L') → Q (.ref p') H') : tOp rCat (tVar i) te σ H Q := by
  refine w_op (w_var hσ (b H _ fun v H1 L1 e1 t1 f1 => ?_))
  cases h with
  | lst h r n =>
    cases t1 with
    | lst h' r' n' =>
      have l1 := trAll_len r
      have l2 := trAll_len r'
      refine w_catR (e1 _ _ h) h' (by omega) fun p3 H3 hp3 e3 h3 => ?_
      refine q _ H3 _ (e1.trans e3) (.lst h3 (trAll_ext e3 (trAll_append r' (trAll_ext e1 r) fun a m z => ?_)) fun z => ?_) fun H0 e0 f0 => ?_
      · exact trAll_apart r (fun b m => f1 b (List.mem_cons_of_mem _ m)) a m z
      · rcases List.mem_append.mp z with z | z
        · obtain ⟨xs, e⟩ := trAll_lists r _ z
          rw [e1 _ _ e] at hp3; cases hp3
        · obtain ⟨xs, e⟩ := trAll_lists r' _ z
          rw [e] at hp3; cases hp3
      · refine Fresh.cons (fresh_back (e0.trans e1) hp3) (Fresh.app (fun a m => f0 a (List.mem_cons_of_mem _ m)) fun a m => fresh_back e0 (f1 a (List.mem_cons_of_mem _ m)))
/-- [e for k in range(n)], e always alike -/
theorem bld_lcR {n : Nat} {vsl : List Nat} {g : Nat} (hn : n < 100000) (hg : ∀ i : Int, wipe ((wipe σ vsl).set g (some (.int i))) vsl = wipe σ vsl) {f : Int → PyData} (h : ∀ i : Int, Bld ((wipe σ vsl).set g (some (.int i))) te (f i)) :
    Bld σ (tLc (iRng1 (tCons (tC (.int (n : Int))) tNil)) (gName g) tYes te vsl) (.list ((List.range n).map fun i => f (0 + (i : Nat)))) := fun H Q q => by
  refine w_lc (i_rng1 (w_cons (w_c (w_nil ?_))))
  refine i_rng1D (by omega) (by omega) ?_
  rw [Int.toNat_natCast]
  refine lt_core (walk_range (lo := 0) (n := n)) (fun i => f (0 + (i : Nat))) hn (fun _ _ => trivial) ?_ fun D H' L e hD t fr => q _ H' L e t fr
  intro D i x H2 H3 hi e _ hD hy Ky k1
  obtain ⟨rfl, rfl⟩ := hy
  exact ⟨hg _, h _ H3 _ fun y H' L e' t fr => k1 y H' L e' t fr⟩
end
section
variable {K : PySem.W.Frag} {σ : L2.St} {te te' : TE} {ta : TA} {d : PyData} {ds es : List PyData}
theorem bld_i {i : Int} (h : ∀ (H : Hp) (Q : VK), Q (.int i) H → te σ H Q) : Bld σ te (.int i) := fun H Q q => h H Q (q _ H [] (Ext.refl _) (.int i) .nil)
theorem bld_varI {g : Nat} {i : Int} (h : σ[g]? = some (some (.int i))) : Bld σ (tVar g) (.int i) := bld_i fun H Q q => w_var h q
theorem bld_varS {g : Nat} {x : Str} (h : σ[g]? = some (some (.str x))) : Bld σ (tVar g) (.str x) := fun H Q q => w_var h (q _ H [] (Ext.refl _) (.str x) .nil)
theorem bld_cat2 (a : Bld σ te (.list ds)) (b : Bld σ te' (.list es)) (l : ds.length + es.length ≤ 1000) : Bld σ (tOp rCat te te') (.list (ds ++ es)) := fun H Q q => by
  refine w_op (a H _ fun v H1 L1 e1 t1 f1 => b H1 _ fun w H2 L2 e2 t2 f2 => ?_)
  have dj := tr_apart t1 f2
  cases t1 with
  | lst h r n =>
    cases t2 with
    | lst h' r' n' =>
      have l1 := trAll_len r
      have l2 := trAll_len r'
      refine w_catR (e2 _ _ h) h' (by omega) fun p3 H3 hp3 e3 h3 => ?_
      refine q _ H3 _ ((e1.trans e2).trans e3) (.lst h3 (trAll_ext e3 (trAll_append r' (trAll_ext e2 r) fun a m z => ?_)) fun z => ?_) (Fresh.cons (fresh_back (e1.trans e2) hp3) (Fresh.app (fun a m => f1 a (List.mem_cons_of_mem _ m)) fun a m => fresh_back e1 (f2 a (List.mem_cons_of_mem _ m))))
      · exact dj a (List.mem_cons_of_mem _ m) (List.mem_cons_of_mem _ z)
      · rcases List.mem_append.mp z with z | z
        · obtain ⟨xs, e⟩ := trAll_lists r _ z
          rw [e2 _ _ e] at hp3; cases hp3
        · obtain ⟨xs, e⟩ := trAll_lists r' _ z
          rw [e] at hp3; cases hp3
theorem tr_lref {H : Hp} {v : V} {L : List Addr} (h : Tr H v (.list ds) L) : ∃ p, v = .ref p := by
  cases h with
  | lst => exact ⟨_, rfl⟩
theorem trAll_strs {H : Hp} : ∀ {vs : List V} {ws : List Str} {L : List Addr}, TrAll H vs (ws.map PyData.str) L → vs = ws.map V.str
  | _, [], _, h => by cases h; rfl
  | _, w :: r, _, h => by
    cases h with
    | cons h1 h2 n =>
      cases h1
      rw [trAll_strs h2]; rfl
/-- [e for w in [words]] -/
theorem bld_lcS {vsl : List Nat} {g : Nat} (ws : List Str) (hta : BldA σ ta (ws.map PyData.str)) (hn : ws.length ≤ 1000) (hg : ∀ w : Str, wipe ((wipe σ vsl).set g (some (.str w))) vsl = wipe σ vsl) {f : Str → PyData} (h : ∀ w : Str, Bld ((wipe σ vsl).set g (some (.str w))) te (f w)) :
    Bld σ (tLc (iList K (tLst ta)) (gName g) tYes te vsl) (.list (ws.map f)) := fun H Q q => by
  refine w_lc (i_list (w_lst (hta H _ fun vs H1 L1 e1 t1 f1 => ?_)))
  have ev := trAll_strs t1
  subst ev
  refine w_newR (by rw [List.length_map]; omega) fun p H2 hp e2 h2 => ?_
  refine ⟨p, rfl, ⟨_, .inl (.inl h2)⟩, ?_⟩
  refine lt_L (K := K) (M := []) ws PyData.str f (by omega) (.inl (.inl (by rw [vis_nil]; exact h2))) (dpAll_strs ws) (fun D i w x2 H3 hi e3 hD hx Ky k1 => ?_) fun D H' L e hD t fr => q _ H' L ((e1.trans e2).trans e) t (fr.back (e1.trans e2))
  cases dp_str hx
  exact ⟨hg _, h _ H3 _ fun y H' L e' t fr => k1 y H' L e' t fr⟩
end
/-! ## dicts -/
section
variable {K : PySem.W.Frag} {σ : L2.St} {H : Hp} {Q : VK} {tk tv td ty tx : TE}
theorem w_pairs {r : List (TE × TE)} {Q : List (V × V) → Hp → Prop} (q : tk σ H fun x H1 => tv σ H1 fun y H2 => tPairs r σ H2 fun ps H3 => Q ((x, y) :: ps) H3) : tPairs ((tk, tv) :: r) σ H Q := q
theorem w_pairs0 {Q : List (V × V) → Hp → Prop} (q : Q [] H) : tPairs [] σ H Q := q
theorem w_disp {trs : List (TE × TE)} (q : ∀ p, H p = none → tPairs trs σ (upd H p (.dK [])) fun ps H2 => H2 p = some (.dK []) ∧ ∃ kvs : List (Key × V), ps = kvs.map (fun kv => (kV kv.1, kv.2)) ∧ kvs.length ≤ 15 ∧ Q (.ref p) (upd H2 p (.dK (mergeK [] kvs)))) : tDisp trs σ H Q := q
end
theorem s_dput {td ty tv : TE} {D : Ends} {σ : L2.St} {H : Hp} (q : tv σ H fun v H1 => td σ H1 fun x H2 => ty σ H2 fun y H3 => ∃ a H4, x = .ref a ∧ DPut H3 a y v H4 ∧ D.nx σ H4) : sDPut td ty tv D σ H := q
theorem w_dget2 {td ty tx : TE} {σ : L2.St} {H : Hp} {Q : VK} (q : td σ H fun x H1 => ∃ a, x = .ref a ∧ IsD H1 a ∧ ty σ H1 fun y H2 => tx σ H2 fun z H3 => ∃ o, DGet H3 a y o ∧ Q (o.getD z) H3) : tDGet2 td ty tx σ H Q := q
theorem putK_len {kvs : List (Key × V)} {k : Key} {v : V} : (putK kvs k v).length ≤ kvs.length + 1 := by
  unfold putK
  split
  · rw [List.length_map]; omega
  · rw [List.length_append, List.length_singleton]; omega
def put5 (kvs : List (Key × V)) (ws : List Str) : List (Key × V) := ws.foldl (fun acc w => putK acc (.inr w) (.int 5)) kvs
theorem put5_more {kvs : List (Key × V)} {ws : List Str} {i : Nat} {z : Str} (h : ws[i]? = some z) : put5 kvs (ws.take (i + 1)) = putK (put5 kvs (ws.take i)) (.inr z) (.int 5) := by
  unfold put5
  rw [List.take_succ, h]
  show List.foldl _ kvs (ws.take i ++ [z]) = _
  rw [List.foldl_append]; rfl
end Hf

namespace Hf
open PySem PySem.Spec PyProof.Rows L2
/-! ## papers, as data and as texts -/
def numsT (ns : List Nat) : Str := if ns = [] then "-" else Txt.join " " (ns.map nz)
def listsT (ls : List (List Nat)) : Str := if ls = [] then "none" else Txt.join ", " (ls.map numsT)
def tiesT (ts : List (Nat × Nat)) : Str := if ts = [] then "-" else Txt.join " " (pzs ts)
inductive Stp where
  | tie (a b : Nat)
  | place (p : Nat) (ps : List (Nat × Nat))
def stepT : Stp → Str
  | .tie a b => "tie " ++ pz a b
  | .place p ps => Txt.join " " ("place" :: nz p :: pzs ps)
def rowT (f : Nat) (ss : List Stp) : Str := Txt.join "; " (nz f :: ss.map stepT)
inductive Thing where
  | nums (ns : List Nat)
  | lists (ls : List (List Nat))
  | ties (ts : List (Nat × Nat))
  | row (f : Nat) (ss : List Stp)
def thingT : Thing → Str
  | .nums ns => numsT ns
  | .lists ls => listsT ls
  | .ties ts => tiesT ts
  | .row f ss => rowT f ss
def paperT (w : Str) (t : Thing) : Str := w ++ " " ++ thingT t
def dStp : Stp → PyData
  | .tie a b => .tuple [.str "tie", .int a, .int b]
  | .place p ps => .tuple [.str "place", .int p, .list (ps.map dTie)]
def dThing : Thing → PyData
  | .nums ns => .list (dNums ns)
  | .lists ls => .list (ls.map fun ns => .list (dNums ns))
  | .ties ts => .list (ts.map dTie)
  | .row f ss => .tuple [.int f, .list (ss.map dStp)]
def dPaper (w : Str) (t : Thing) : PyData := .tuple [.str w, dThing t]
def big : Nat := 10 ^ 40
def okNs (ns : List Nat) : Prop := ns.length ≤ 100 ∧ ∀ n ∈ ns, n < 10 ^ 40
def okPair (t : Nat × Nat) : Prop := t.1 ≤ t.2 ∧ t.2 < 10 ^ 40
def okT (t : Nat × Nat) : Prop := t.1 < t.2 ∧ t.2 < 10 ^ 40
def okStp : Stp → Prop
  | .tie a b => a < b ∧ b < 10 ^ 40
  | .place p ps => p < 10 ^ 40 ∧ ps.length ≤ 20 ∧ ∀ t ∈ ps, okPair t
def okThing : Thing → Prop
  | .nums ns => okNs ns
  | .lists ls => ls.length ≤ 40 ∧ ∀ ns ∈ ls, okNs ns
  | .ties ts => ts.length ≤ 40 ∧ ∀ t ∈ ts, okT t
  | .row f ss => f < 10 ^ 40 ∧ ss.length ≤ 60 ∧ ∀ s ∈ ss, okStp s
def okWord (w : Str) : Thing → Prop
  | .nums _ => w ∈ (["side", "lot", "setting"] : List Str)
  | .lists _ => w ∈ (["ways", "trees", "woods", "parting", "lots"] : List Str)
  | .ties _ => w = "ties"
  | .row _ _ => w = "row"
def okMore : Thing → Prop
  | .lists ls => ∀ ns ∈ ls, ns.length ≤ 5
  | .row _ ss => ss.length ≤ 6 ∨ ∀ s ∈ ss, (stepT s).length ≤ 20
  | _ => True
structure okPaper (w : Str) (t : Thing) : Prop where
  word : okWord w t
  thing : okThing t
  len : (thingT t).length ≤ 90000
  more : okMore t
/-! ### signs that a text lacks -/
open TL in
theorem free_app {c : Nat} {a b : Str} (h : c ∉ tl a) (h' : c ∉ tl b) : c ∉ tl (a ++ b) := by
  rw [tl_append]
  intro m
  rcases List.mem_append.mp m with m | m
  · exact h m
  · exact h' m
open TL in
theorem free_joinL {c : Nat} {S : List Nat} (hS : c ∉ S) : ∀ {ps : List (List Nat)}, (∀ p ∈ ps, c ∉ p) → c ∉ joinL S ps
  | [], _ => fun m => nomatch m
  | [p], h => h p List.mem_cons_self
  | p :: q :: r, h => fun m => by
    rcases List.mem_append.mp m with m | m
    · exact h p List.mem_cons_self m
    · rcases List.mem_append.mp m with m | m
      · exact hS m
      · exact free_joinL hS (fun x hx => h x (List.mem_cons_of_mem _ hx)) m
open TL in
theorem free_join {c : Nat} {s : Str} {ps : List Str} (hs : c ∉ tl s) (h : ∀ p ∈ ps, c ∉ tl p) : c ∉ tl (Txt.join s ps) := by
  rw [join_eq, tl_join]
  refine free_joinL hs fun p hp => ?_
  obtain ⟨x, hx, rfl⟩ := List.mem_map.mp hp
  exact h x hx
theorem free_nz {c n : Nat} (h : c < 48 ∨ 57 < c) : c ∉ TL.tl (nz n) := by rw [nz_tl]; exact TL.numL_free h
theorem free_pz {c a b : Nat} (h : c < 48 ∨ 57 < c) (h' : c ≠ 45) : c ∉ TL.tl (pz a b) := free_app (free_app (free_nz h) (by
  rw [show TL.tl ("-" : Str) = [45] by decide +kernel]
  simpa using h')) (free_nz h)
theorem tl_blank : TL.tl (" " : Str) = [32] := by decide +kernel
theorem free_nums {c : Nat} {ns : List Nat} (h : c < 48 ∨ 57 < c) (h1 : c ≠ 45) (h2 : c ≠ 32) : c ∉ TL.tl (numsT ns) := by
  unfold numsT
  split
  · rw [show TL.tl ("-" : Str) = [45] by decide +kernel]
    simpa using h1
  · refine free_join (by rw [tl_blank]; simpa using h2) fun p hp => ?_
    obtain ⟨n, _, rfl⟩ := List.mem_map.mp hp
    exact free_nz h
theorem free_pzs {c : Nat} {ts : List (Nat × Nat)} (h : c < 48 ∨ 57 < c) (h1 : c ≠ 45) : ∀ p ∈ pzs ts, c ∉ TL.tl p := fun p hp => by
  obtain ⟨t, _, rfl⟩ := List.mem_map.mp hp
  exact free_pz h h1
/-! ### texts, split -/
theorem split_nums {ns : List Nat} (h : ns ≠ []) : Txt.split (numsT ns) " " = ns.map nz := by
  unfold numsT
  rw [if_neg h]
  refine TL.split_join (s := 32) (S := []) (by decide +kernel) (by decide +kernel) (by simpa using h) fun p hp => ?_
  obtain ⟨n, _, rfl⟩ := List.mem_map.mp hp
  exact free_nz (.inl (by decide))
theorem split_lists {ls : List (List Nat)} (h : ls ≠ []) : Txt.split (listsT ls) ", " = ls.map numsT := by
  unfold listsT
  rw [if_neg h]
  refine TL.split_join (s := 44) (S := [32]) (by decide +kernel) (by decide +kernel) (by simpa using h) fun p hp => ?_
  obtain ⟨n, _, rfl⟩ := List.mem_map.mp hp
  exact free_nums (.inl (by decide)) (by decide) (by decide)
theorem split_ties {ts : List (Nat × Nat)} (h : ts ≠ []) : Txt.split (tiesT ts) " " = pzs ts := by
  unfold tiesT
  rw [if_neg h]
  refine TL.split_join (s := 32) (S := []) (by decide +kernel) (by decide +kernel) (by simpa [pzs] using h) (free_pzs (.inl (by decide)) (by decide))
theorem split_tie (a b : Nat) : Txt.split (stepT (.tie a b)) " " = (["tie", pz a b] : List Str) := by
  have e : stepT (.tie a b) = Txt.join " " (["tie", pz a b] : List Str) := by
    rw [join2]
    show ("tie " : Str) ++ _ = _
    rw [show ("tie " : Str) = "tie" ++ " " by decide +kernel]
  rw [e]
  refine TL.split_join (s := 32) (S := []) (by decide +kernel) (by decide +kernel) (by simp) fun p hp => ?_
  rcases List.mem_cons.mp hp with rfl | hp
  · decide +kernel
  · rw [List.mem_singleton.mp hp]; exact free_pz (.inl (by decide)) (by decide)
theorem split_place (p : Nat) (ps : List (Nat × Nat)) : Txt.split (stepT (.place p ps)) " " = ("place" : Str) :: nz p :: pzs ps := by
  show Txt.split (Txt.join " " (("place" : Str) :: nz p :: pzs ps)) " " = _
  refine TL.split_join (s := 32) (S := []) (by decide +kernel) (by decide +kernel) (by simp) fun x hx => ?_
  rcases List.mem_cons.mp hx with rfl | hx
  · decide +kernel
  · rcases List.mem_cons.mp hx with rfl | hx
    · exact free_nz (.inl (by decide))
    · exact free_pzs (.inl (by decide)) (by decide) x hx
theorem free_step {c : Nat} (h : c < 48 ∨ 57 < c) (h1 : c ≠ 45) (h2 : c ≠ 32) (h3 : c < 97) (s : Stp) : c ∉ TL.tl (stepT s) := by
  cases s with
  | tie a b =>
    refine free_app ?_ (free_pz h h1)
    rw [show TL.tl ("tie " : Str) = [116, 105, 101, 32] by decide +kernel]
    simp only [List.mem_cons, List.not_mem_nil, or_false]
    omega
  | place p ps =>
    refine free_join (by rw [tl_blank]; simpa using h2) fun x hx => ?_
    rcases List.mem_cons.mp hx with rfl | hx
    · rw [show TL.tl ("place" : Str) = [112, 108, 97, 99, 101] by decide +kernel]
      simp only [List.mem_cons, List.not_mem_nil, or_false]
      omega
    · rcases List.mem_cons.mp hx with rfl | hx
      · exact free_nz h
      · exact free_pzs h h1 x hx
theorem split_row (f : Nat) (ss : List Stp) : Txt.split (rowT f ss) "; " = nz f :: ss.map stepT := by
  show Txt.split (Txt.join "; " (nz f :: ss.map stepT)) "; " = _
  refine TL.split_join (s := 59) (S := [32]) (by decide +kernel) (by decide +kernel) (by simp) fun x hx => ?_
  rcases List.mem_cons.mp hx with rfl | hx
  · exact free_nz (.inr (by decide))
  · obtain ⟨s, _, rfl⟩ := List.mem_map.mp hx
    exact free_step (.inr (by decide)) (by decide) (by decide) (by decide) s
/-! ### never the words of nothing -/
theorem ne_of_free {c : Nat} {x y : Str} (h : c ∉ TL.tl x) (h' : c ∈ TL.tl y) : x ≠ y := fun e => h (e ▸ h')
open TL in
theorem nums_ne {ns : List Nat} (h : ns ≠ []) : numsT ns ≠ "-" := by
  unfold numsT
  rw [if_neg h]
  refine ne_of_free (c := 45) (free_join (by rw [tl_blank]; decide) fun p hp => ?_) (by decide +kernel)
  obtain ⟨n, _, rfl⟩ := List.mem_map.mp hp
  exact free_nz (.inl (by decide))
open TL in
theorem lists_ne {ls : List (List Nat)} (h : ls ≠ []) : listsT ls ≠ "none" := by
  unfold listsT
  rw [if_neg h]
  refine ne_of_free (c := 110) (free_join (by decide +kernel) fun p hp => ?_) (by decide +kernel)
  obtain ⟨n, _, rfl⟩ := List.mem_map.mp hp
  exact free_nums (.inr (by decide)) (by decide) (by decide)
open TL in
theorem ties_ne {ts : List (Nat × Nat)} (h : ts ≠ []) : tiesT ts ≠ "-" := by
  unfold tiesT
  rw [if_neg h]
  obtain ⟨t, r, rfl⟩ := List.exists_cons_of_ne_nil h
  intro e
  have e := congrArg tl e
  rw [join_eq, tl_join, pzs, List.map_cons, List.map_cons, joinL_sep, tl_append, tl_append, nz_tl, show tl ("-" : Str) = [45] by decide +kernel] at e
  cases q : numL t.1 with
  | nil => exact numL_ne _ q
  | cons c s =>
    have : c ∈ numL t.1 := by rw [q]; exact List.mem_cons_self
    have := numL_mem this
    rw [q] at e
    injection e with e1 _
    omega
theorem part_paper {w : Str} {t : Thing} (h : 32 ∉ TL.tl w) : Txt.partition (paperT w t) " " = (w, (" " : Str), thingT t) := TL.partition_app (y := " ") (s := 32) (S := []) (by decide +kernel) h
theorem nums_of : ∀ {ds : List PyData}, (∀ d ∈ ds, ∃ n : Nat, d = .int n ∧ n < 10 ^ 40) → ∃ ns, ds = dNums ns ∧ ∀ n ∈ ns, n < 10 ^ 40
  | [], _ => ⟨[], rfl, fun _ h => nomatch h⟩
  | d :: r, h => by
    obtain ⟨t, rfl, h1⟩ := h d List.mem_cons_self
    obtain ⟨ts, rfl, h2⟩ := nums_of fun x hx => h x (List.mem_cons_of_mem _ hx)
    refine ⟨t :: ts, rfl, fun x hx => ?_⟩
    rcases List.mem_cons.mp hx with rfl | hx
    · exact h1
    · exact h2 x hx
/-- data, one by one the code of something good -/
theorem all_of {α : Type} (enc : α → PyData) (P : α → Prop) : ∀ {ds : List PyData}, (∀ d ∈ ds, ∃ x, d = enc x ∧ P x) → ∃ xs : List α, ds = xs.map enc ∧ ∀ x ∈ xs, P x
  | [], _ => ⟨[], rfl, fun _ h => nomatch h⟩
  | d :: r, h => by
    obtain ⟨t, rfl, h1⟩ := h d List.mem_cons_self
    obtain ⟨ts, rfl, h2⟩ := all_of enc P fun x hx => h x (List.mem_cons_of_mem _ hx)
    refine ⟨t :: ts, rfl, fun x hx => ?_⟩
    rcases List.mem_cons.mp hx with rfl | hx
    · exact h1
    · exact h2 x hx
theorem tr_pair {H : Hp} {p : Addr} {a b : Nat} (h : H p = some (.tup [.int a, .int b])) : Tr H (.ref p) (dTie (a, b)) [] := .tup h (.cons (L := []) (.int _) (.cons (L := []) (.int _) .nil fun _ z => nomatch z) fun _ z => nomatch z)
/-! ### lengths -/
theorem nums_sumT {ns : List Nat} (h : ∀ n ∈ ns, n < 10 ^ 40) : ((ns.map nz).map (·.length)).sum ≤ ns.length * 40 := by
  have := sum_leC 40 ((ns.map nz).map (·.length)) (by
    intro x hx
    simp only [List.map_map, List.mem_map, Function.comp] at hx
    obtain ⟨n, hn, rfl⟩ := hx
    exact nz_le (h n hn))
  rw [List.length_map, List.length_map] at this
  exact this
theorem nums_lenT {ns : List Nat} (hl : ns.length ≤ 100) (h : ∀ n ∈ ns, n < 10 ^ 40) : (numsT ns).length ≤ 4100 := by
  unfold numsT
  split
  · rw [one_dash]; decide
  · have h1 := join_len " " (ns.map nz)
    have h2 := nums_sumT h
    rw [one_blank, List.length_map] at h1
    omega
theorem pzs_sumT {ts : List (Nat × Nat)} (ok : ∀ t ∈ ts, okPair t) : ((pzs ts).map (·.length)).sum ≤ ts.length * 81 := by
  have := sum_leC 81 ((pzs ts).map (·.length)) (by
    intro x hx
    simp only [pzs, List.map_map, List.mem_map, Function.comp] at hx
    obtain ⟨t, ht, rfl⟩ := hx
    obtain ⟨h1, h2⟩ := ok t ht
    exact pz_le (by omega) (by omega))
  rw [List.length_map, pzs, List.length_map] at this
  exact this
theorem pzs_len (ts : List (Nat × Nat)) : (pzs ts).length = ts.length := List.length_map _
theorem okT_pair {ts : List (Nat × Nat)} (h : ∀ t ∈ ts, okT t) : ∀ t ∈ ts, okPair t := fun t m => ⟨Nat.le_of_lt (h t m).1, (h t m).2⟩
theorem ties_lenT {ts : List (Nat × Nat)} (hl : ts.length ≤ 40) (ok : ∀ t ∈ ts, okPair t) : (tiesT ts).length ≤ 4100 := by
  unfold tiesT
  split
  · rw [one_dash]; decide
  · have h1 := join_len " " (pzs ts)
    have h2 := pzs_sumT ok
    rw [one_blank, pzs_len] at h1
    omega
theorem step_lenT {s : Stp} (ok : okStp s) : (stepT s).length ≤ 1800 := by
  cases s with
  | tie a b =>
    have : (pz a b).length ≤ 81 := pz_le (by have := ok.1; have := ok.2; omega) ok.2
    show (("tie " : Str) ++ pz a b).length ≤ _
    rw [len_app, show ("tie " : Str).length = 4 by decide +kernel]
    omega
  | place p ps =>
    obtain ⟨h1, h2, h3⟩ := ok
    have e1 := join_len " " (("place" : Str) :: nz p :: pzs ps)
    have e2 := pzs_sumT h3
    have e3 := nz_le h1
    rw [one_blank, List.map_cons, List.map_cons, List.sum_cons, List.sum_cons, List.length_cons, List.length_cons, pzs_len, show ("place" : Str).length = 5 by decide +kernel] at e1
    show (Txt.join " " (("place" : Str) :: nz p :: pzs ps)).length ≤ _
    omega
theorem lists_sum {ls : List (List Nat)} (h : ∀ ns ∈ ls, okNs ns) : ((ls.map numsT).map (·.length)).sum ≤ ls.length * 4100 := by
  have := sum_leC 4100 ((ls.map numsT).map (·.length)) (by
    intro x hx
    simp only [List.map_map, List.mem_map, Function.comp] at hx
    obtain ⟨n, hn, rfl⟩ := hx
    exact nums_lenT (h n hn).1 (h n hn).2)
  rw [List.length_map, List.length_map] at this
  exact this
theorem lists_lenT {ls : List (List Nat)} (hl : ls.length ≤ 6) (h : ∀ ns ∈ ls, okNs ns) : (listsT ls).length ≤ 25000 := by
  unfold listsT
  split
  · rw [show ("none" : Str).length = 4 by decide +kernel]; decide
  · have h1 := join_len ", " (ls.map numsT)
    have h2 := lists_sum h
    rw [show (", " : Str).length = 2 by decide +kernel, List.length_map] at h1
    omega
theorem steps_sum {ss : List Stp} (h : ∀ s ∈ ss, okStp s) : ((ss.map stepT).map (·.length)).sum ≤ ss.length * 1800 := by
  have := sum_leC 1800 ((ss.map stepT).map (·.length)) (by
    intro x hx
    simp only [List.map_map, List.mem_map, Function.comp] at hx
    obtain ⟨s, hs, rfl⟩ := hx
    exact step_lenT (h s hs))
  rw [List.length_map, List.length_map] at this
  exact this
theorem semi_sum {ss : List Stp} (h : ∀ s ∈ ss, okStp s) : ((ss.map fun s => "; " ++ stepT s).map (·.length)).sum ≤ ss.length * 1802 := by
  have := sum_leC 1802 ((ss.map fun s => "; " ++ stepT s).map (·.length)) (by
    intro x hx
    simp only [List.map_map, List.mem_map, Function.comp] at hx
    obtain ⟨s, hs, rfl⟩ := hx
    have := step_lenT (h s hs)
    rw [len_app, show ("; " : Str).length = 2 by decide +kernel]
    omega)
  rw [List.length_map, List.length_map] at this
  exact this
theorem row_lenT {f : Nat} {ss : List Stp} (hf : f < 10 ^ 40) (hl : ss.length ≤ 6) (h : ∀ s ∈ ss, okStp s) : (rowT f ss).length ≤ 12000 := by
  have h1 := join_len "; " (nz f :: ss.map stepT)
  have h2 := steps_sum h
  have h3 := nz_le hf
  rw [show ("; " : Str).length = 2 by decide +kernel, List.map_cons, List.sum_cons, List.length_cons, List.length_map] at h1
  show (Txt.join "; " (nz f :: ss.map stepT)).length ≤ _
  omega
theorem thing_len {t : Thing} (h : okThing t) (m : okMore t) : (thingT t).length ≤ 90000 := by
  cases t with
  | nums ns => exact Nat.le_trans (nums_lenT h.1 h.2) (by decide)
  | ties ts => exact Nat.le_trans (ties_lenT h.1 (okT_pair h.2)) (by decide)
  | lists ls =>
    have h1 := join_len ", " (ls.map numsT)
    have h2 := sum_leC 210 ((ls.map numsT).map (·.length)) (by
      intro x hx
      simp only [List.map_map, List.mem_map, Function.comp] at hx
      obtain ⟨ns, hn, rfl⟩ := hx
      have a := nums_sumT (h.2 ns hn).2
      have b := join_len " " (ns.map nz)
      have c := m ns hn
      rw [one_blank, List.length_map] at b
      show (numsT ns).length ≤ _
      unfold numsT
      split
      · rw [one_dash]; decide
      · omega)
    have h3 : ls.length ≤ 40 := h.1
    rw [show (", " : Str).length = 2 by decide +kernel, List.length_map] at h1
    rw [List.length_map, List.length_map] at h2
    show (listsT ls).length ≤ _
    unfold listsT
    split
    · rw [show ("none" : Str).length = 4 by decide +kernel]; decide
    · omega
  | row f ss =>
    obtain ⟨hf, hl, hn⟩ := h
    have h1 := join_len "; " (nz f :: ss.map stepT)
    have h3 := nz_le hf
    rw [show ("; " : Str).length = 2 by decide +kernel, List.map_cons, List.sum_cons, List.length_cons, List.length_map] at h1
    show (Txt.join "; " (nz f :: ss.map stepT)).length ≤ _
    rcases m with m | m
    · have h2 := steps_sum hn
      omega
    · have h2 := sum_leC 20 ((ss.map stepT).map (·.length)) (by
        intro x hx
        simp only [List.map_map, List.mem_map, Function.comp] at hx
        obtain ⟨s, hs, rfl⟩ := hx
        exact m s hs)
      rw [List.length_map, List.length_map] at h2
      omega
theorem okPaper.of {w : Str} {t : Thing} (h : okWord w t) (h' : okThing t) (m : okMore t) : okPaper w t := ⟨h, h', thing_len h' m, m⟩
/-! ### shapes -/
theorem shp_two {k : Nat} {a b : PyData} (h : Shp k a) (h' : Shp k b) : ∀ d ∈ [a, b], Shp k d := fun d hd => by
  rcases List.mem_cons.mp hd with rfl | hd
  · exact h
  · rw [List.mem_singleton.mp hd]; exact h'
theorem shp_three {k : Nat} {a b c : PyData} (h : Shp k a) (h' : Shp k b) (h'' : Shp k c) : ∀ d ∈ [a, b, c], Shp k d := fun d hd => by
  rcases List.mem_cons.mp hd with rfl | hd
  · exact h
  · exact shp_two h' h'' d hd
theorem shp_map {α : Type} {k : Nat} {f : α → PyData} (h : ∀ x, Shp k (f x)) (l : List α) : ∀ d ∈ l.map f, Shp k d := fun d hd => by
  obtain ⟨x, _, rfl⟩ := List.mem_map.mp hd
  exact h x
theorem shp_step (s : Stp) : Shp 3 (dStp s) := by
  cases s with
  | tie a b => exact .tup (shp_three (.str (by decide +kernel)) (.int _) (.int _))
  | place p ps => exact .tup (shp_three (.str (by decide +kernel)) (.int _) (shp_ties ps))
theorem shp_thing (t : Thing) : Shp 5 (dThing t) := by
  cases t with
  | nums ns => exact .list (shp_nums ns)
  | lists ls => exact .list (shp_map (fun ns => (Shp.list (k := 3) (shp_nums ns))) ls)
  | ties ts => exact (shp_ties ts).mono (by decide)
  | row f ss => exact .tup (shp_two (.int _) (.list (shp_map shp_step ss)))
theorem eqv_nil (ds : List PyData) : PyData.eqv (.list ds) (.list []) = decide (ds = []) := by
  cases ds with
  | nil => rfl
  | cons a r => rfl
/-- x == [] -/
theorem w_eqNil {K : PySem.W.Frag} {M : List Addr} {H : Hp} {Q : VK} {x y : V} {ds : List PyData} {k : Nat} (h : Dp K (vis M H) x (.list ds)) (h' : Dp K (vis M H) y (.list [])) (s : Shp k (.list ds)) (l : k ≤ 64) (q : Q (.bl (decide (ds = []))) H) : rEqD K x y H Q :=
  w_eqD h h' (s.ok l) ((Shp.list (k := 0) (ds := []) (fun _ h => nomatch h)).ok (by decide)) (by rw [eqv_nil]; exact q)
theorem w_neNil {K : PySem.W.Frag} {M : List Addr} {H : Hp} {Q : VK} {x y : V} {ds : List PyData} {k : Nat} (h : Dp K (vis M H) x (.list ds)) (h' : Dp K (vis M H) y (.list [])) (s : Shp k (.list ds)) (l : k ≤ 64) (q : Q (.bl (!decide (ds = []))) H) : rNeD K x y H Q :=
  w_neD h h' (s.ok l) ((Shp.list (k := 0) (ds := []) (fun _ h => nomatch h)).ok (by decide)) (by rw [eqv_nil]; exact q)
/-! ### the law's own texts -/
open TL in
theorem nil_app (y : Str) : y ++ Str.empty = y := ext_tl (by rw [tl_append]; exact List.append_nil _)
open TL in
theorem join_nil (s : Str) : Txt.join s [] = Str.empty := by
  apply ext_tl
  rw [join_eq, tl_join]; rfl
theorem nums_eq (ns : List Nat) : Txt.join " " (ns.map nz) ++ (if (dNums ns = []) then ("-" : Str) else Str.empty) = numsT ns := by
  cases ns with
  | nil => rw [if_pos (show dNums [] = [] from rfl)]; show Txt.join " " [] ++ _ = _; rw [join_nil, empty_app]; rfl
  | cons n r => rw [if_neg (by simp [dNums]), nil_app]; rfl
theorem ties_eq (ts : List (Nat × Nat)) : Txt.join " " (pzs ts) ++ (if (ts.map dTie = []) then ("-" : Str) else Str.empty) = tiesT ts := by
  cases ts with
  | nil => rw [if_pos (show List.map dTie [] = [] from rfl)]; show Txt.join " " [] ++ _ = _; rw [join_nil, empty_app]; rfl
  | cons n r => rw [if_neg (by simp), nil_app]; rfl
theorem lists_eq (ls : List (List Nat)) : Txt.join ", " (ls.map numsT) ++ (if ((ls.map fun ns => PyData.list (dNums ns)) = []) then ("none" : Str) else Str.empty) = listsT ls := by
  cases ls with
  | nil => rw [if_pos (show List.map (fun ns => PyData.list (dNums ns)) [] = [] from rfl)]; show Txt.join ", " [] ++ _ = _; rw [join_nil, empty_app]; rfl
  | cons n r => rw [if_neg (by simp), nil_app]; rfl
open TL in
theorem place_eq (p : Nat) (ps : List (Nat × Nat)) : ("; place " : Str) ++ Txt.join " " (nz p :: pzs ps) = "; " ++ stepT (.place p ps) := by
  apply ext_tl
  show _ = tl ("; " ++ Txt.join " " (("place" : Str) :: nz p :: pzs ps))
  rw [tl_append, tl_append, join_eq, join_eq, tl_join, tl_join, List.map_cons, List.map_cons, List.map_cons]
  show _ = tl "; " ++ (tl "place" ++ (tl " " ++ joinL (tl " ") (tl (nz p) :: List.map tl (pzs ps))))
  rw [← List.append_assoc, ← List.append_assoc]
  congr 1
open TL in
theorem row_eq (f : Nat) (ss : List Stp) : (("row " : Str) ++ nz f) ++ Txt.join "" (ss.map fun s => "; " ++ stepT s) = "row" ++ " " ++ rowT f ss := by
  apply ext_tl
  show _ = tl ("row" ++ " " ++ Txt.join "; " (nz f :: ss.map stepT))
  rw [tl_append, tl_append, tl_append, tl_append, join_eq, join_eq, tl_join, tl_join, List.map_cons, joinL_sep, List.map_map, List.map_map, List.map_map, List.append_assoc]
  have e : (tl ∘ fun s => "; " ++ stepT s) = ((fun x => tl "; " ++ x) ∘ tl ∘ stepT) := by
    funext s
    simp only [Function.comp, tl_append]
  rw [e, show tl ("" : Str) = [] by decide +kernel, show tl ("row " : Str) = tl "row" ++ tl " " by decide +kernel]
  rfl
/-! ### a text times nought or one -/
def rMulZ : R2 := fun x y H Q => ∃ (z : Str) (n : Int), x = .str z ∧ y = .int n ∧ MulOk z n ∧ Q (.str (Txt.mul z n)) H
theorem on_mulZ {X : Cx} : OpR X (binaryOp .Mult) rMulZ := by
  intro pins s σ H x y v u Q I rx ry h
  obtain ⟨z, n, rfl, rfl, hok, q⟩ := h
  obtain ⟨t, rfl⟩ := (show ∃ t, v = Value.str z t from rx)
  obtain ⟨t2, rfl⟩ := (show ∃ t, u = Value.int n t from ry)
  exact SB.mul hok fun t' k => ⟨.str _, H, I.tok k, ⟨t', rfl⟩, q⟩
theorem mulok01 {z : Str} {n : Int} (h : n = 0 ∨ n = 1) : MulOk z n := by
  rcases h with rfl | rfl
  · exact ⟨by decide, fun a => absurd (by decide) a, fun a => absurd (by decide) a⟩
  · exact ⟨by decide, fun _ a => by simp at a, fun _ a => by simp at a⟩
/-- text * int(test) -/
theorem w_mulB {z : Str} {p : Prop} [Decidable p] {H : Hp} {Q : VK} (q : Q (.str (if p then z else Str.empty)) H) : rMulZ (.str z) (.int (if decide p = true then (1 : Int) else 0)) H Q := by
  by_cases c : p
  · rw [decide_eq_true c]
    rw [if_pos c] at q
    exact ⟨z, 1, rfl, rfl, mulok01 (.inr rfl), q⟩
  · rw [decide_eq_false c]
    rw [if_neg c] at q
    exact ⟨z, 0, rfl, rfl, mulok01 (.inl rfl), q⟩
/-! ## the rows of a paper -/
def rowsD : Thing → List PyData
  | .nums ns => dNums ns
  | .lists ls => ls.map fun ns => .list (dNums ns)
  | .ties ts => ts.map dTie
  | .row _ ss => ss.map dStp
/-- where they lie -/
def RowAt (H : Hp) (w : Str) (t : Thing) (px a : Addr) : Prop := ∃ v2, H px = some (.tup [.str w, v2]) ∧ match t with
  | .row f _ => ∃ b, v2 = .ref b ∧ H b = some (.tup [.int f, .ref a])
  | _ => v2 = .ref a
theorem row_at {H : Hp} {x : V} {w : Str} {t : Thing} {L : List Addr} (h : Tr H x (dPaper w t) L) : ∃ px a vs La, x = .ref px ∧ RowAt H w t px a ∧ H a = some (.lst vs) ∧ TrAll H vs (rowsD t) La ∧ a ∉ La ∧ a ∈ L := by
  cases h with
  | tup h r =>
    cases r with
    | cons h1 r n =>
      cases h1
      cases r with
      | cons h2 r n2 =>
        cases r
        cases t with
        | nums ns =>
          cases h2 with
          | lst ha r0 n0 => exact ⟨_, _, _, _, rfl, ⟨_, h, rfl⟩, ha, r0, n0, by simp⟩
        | lists ls =>
          cases h2 with
          | lst ha r0 n0 => exact ⟨_, _, _, _, rfl, ⟨_, h, rfl⟩, ha, r0, n0, by simp⟩
        | ties ts =>
          cases h2 with
          | lst ha r0 n0 => exact ⟨_, _, _, _, rfl, ⟨_, h, rfl⟩, ha, r0, n0, by simp⟩
        | row f ss =>
          cases h2 with
          | tup hb r =>
            cases r with
            | cons h3 r n3 =>
              cases h3
              cases r with
              | cons h4 r n4 =>
                cases r
                cases h4 with
                | lst ha r0 n0 => exact ⟨_, _, _, _, rfl, ⟨_, h, _, rfl, hb⟩, ha, r0, n0, by simp⟩
theorem row_dp {K : PySem.W.Frag} {H : Hp} {w : Str} {t : Thing} {px a : Addr} {vs : List V} {L : List Addr} (h : RowAt H w t px a) (ha : H a = some (.lst vs)) (r : TrAll H vs (rowsD t) L) : Dp K (vis [] H) (.ref px) (dPaper w t) := by
  obtain ⟨v2, h1, h2⟩ := h
  have hr : DpAll K (vis [] H) vs (rowsD t) := trAll_dp (M := []) (fun _ z => nomatch z) r fun _ _ z => nomatch z
  have hl : Dp K (vis [] H) (.ref a) (.list (rowsD t)) := .lst (.inl (.inl (by rw [vis_nil]; exact ha))) hr
  refine .tup (.inl (.inl (by rw [vis_nil]; exact h1))) (.cons (.str w) (.cons ?_ .nil))
  cases t with
  | nums ns => cases h2; exact hl
  | lists ls => cases h2; exact hl
  | ties ts => cases h2; exact hl
  | row f ss =>
    obtain ⟨b, rfl, hb⟩ := h2
    exact .tup (.inl (.inl (by rw [vis_nil]; exact hb))) (.cons (.int f) (.cons hl .nil))
def popT : Thing → Thing
  | .nums ns => .nums ns.dropLast
  | .lists ls => .lists ls.dropLast
  | .ties ts => .ties ts.dropLast
  | .row f ss => .row f ss.dropLast
def addT : Thing → Thing
  | .nums _ => .nums [5]
  | .lists _ => .lists [[3]]
  | .ties _ => .ties [(0, 1)]
  | .row f _ => .row f [.tie 0 1]
theorem pop_rows (t : Thing) : rowsD (popT t) = (rowsD t).dropLast := by
  cases t with
  | nums ns => exact List.map_dropLast
  | lists ns => exact List.map_dropLast
  | ties ns => exact List.map_dropLast
  | row f ns => exact List.map_dropLast
theorem pop_at {H : Hp} {w : Str} {t : Thing} {px a : Addr} (h : RowAt H w t px a) : RowAt H w (popT t) px a := by cases t <;> exact h
theorem add_at {H : Hp} {w : Str} {t : Thing} {px a : Addr} (h : RowAt H w t px a) : RowAt H w (addT t) px a := by cases t <;> exact h
theorem pop_ok {w : Str} {t : Thing} (h : okPaper w t) : okPaper w (popT t) := by
  obtain ⟨h1, h2, _, h4⟩ := h
  cases t with
  | nums ns => exact .of h1 ⟨by have := h2.1; rw [List.length_dropLast]; omega, fun n m => h2.2 n (List.dropLast_subset _ m)⟩ trivial
  | lists ls => exact .of h1 ⟨by have := h2.1; rw [List.length_dropLast]; omega, fun n m => h2.2 n (List.dropLast_subset _ m)⟩ fun n m => h4 n (List.dropLast_subset _ m)
  | ties ts => exact .of h1 ⟨by have := h2.1; rw [List.length_dropLast]; omega, fun n m => h2.2 n (List.dropLast_subset _ m)⟩ trivial
  | row f ss =>
    refine .of h1 ⟨h2.1, by have := h2.2.1; rw [List.length_dropLast]; omega, fun n m => h2.2.2 n (List.dropLast_subset _ m)⟩ ?_
    rcases h4 with h | h
    · exact .inl (by rw [List.length_dropLast]; omega)
    · exact .inr fun n m => h n (List.dropLast_subset _ m)
theorem add_ok {w : Str} {t : Thing} (h : okPaper w t) : okPaper w (addT t) := by
  obtain ⟨h1, h2, _, h4⟩ := h
  cases t with
  | nums ns => exact .of h1 ⟨by decide, by decide +kernel⟩ trivial
  | lists ls => exact .of h1 ⟨by decide, fun n m => by rw [List.mem_singleton.mp m]; exact ⟨by decide, by decide +kernel⟩⟩ fun n m => by rw [List.mem_singleton.mp m]; decide
  | ties ts => exact .of h1 ⟨by decide, fun n m => by rw [List.mem_singleton.mp m]; exact ⟨by decide, by decide⟩⟩ trivial
  | row f ss => exact .of h1 ⟨h2.1, by simp, fun n m => by rw [List.mem_singleton.mp m]; exact ⟨by decide, by decide⟩⟩ (.inl (by simp))
theorem row_up {H H' : Hp} {w : Str} {t : Thing} {px a : Addr} (h : RowAt H w t px a) (e : ∀ b xs, H b = some (.tup xs) → H' b = some (.tup xs)) : RowAt H' w t px a := by
  obtain ⟨v2, h1, h2⟩ := h
  refine ⟨v2, e _ _ h1, ?_⟩
  cases t with
  | row f ss =>
    obtain ⟨b, h3, h4⟩ := h2
    exact ⟨b, h3, e _ _ h4⟩
  | _ => exact h2
theorem shp_rows (t : Thing) : Shp 5 (.list (rowsD t)) := by
  cases t with
  | nums ns => exact .list (shp_nums ns)
  | lists ls => exact .list (shp_map (fun ns => (Shp.list (k := 3) (shp_nums ns))) ls)
  | ties ts => exact (shp_ties ts).mono (by decide)
  | row f ss => exact .list (shp_map (fun s => (shp_step s).mono (by decide)) ss)
end Hf

namespace Hf
open PySem PySem.Spec PyProof.Rows L2
/-! ## a list of lists, each changed in turn -/
def lenAt (H : Hp) (a : Addr) : Nat := match H a with
  | some (.lst xs) => xs.length
  | _ => 0
theorem lenAt_of {H : Hp} {a : Addr} {xs : List V} (h : H a = some (.lst xs)) : lenAt H a = xs.length := by unfold lenAt; rw [h]
theorem ext_butS {S : List Addr} {H H1 H2 : Hp} (e : Ext H H1) (f : ∀ a ∈ S, H a = none) (b : ButS S H1 H2) : Ext H H2 := fun c o hc => b c o (fun z => by rw [f c z] at hc; cases hc) (e c o hc)
section
variable {K : PySem.W.Frag} {σ : L2.St} {H H1 : Hp} {M : List Addr} {Q : VK} {g : TG} {te : TE} {tb : TS} {vsl : List Nat}
/-- [.. for one in lists] -/
theorem lr_L {p : Addr} {Ls : List Addr} (h : Addr → PyData) (hn : Ls.length < 100000) (hM : Dom M H1) (hp : H1 p = some (.lst (Ls.map V.ref)))
    (turn : ∀ (a : Addr) (H2 : Hp), a ∈ Ls → Ext H1 H2 → ∀ (Ky : V → Hp → Prop), (∀ y H' M', Ext H2 H' → Dp K (vis M' H') y (h a) → Ky y H') → g (.ref a) (wipe σ vsl) H2 fun σ2 H4 => wipe σ2 vsl = wipe σ vsl ∧ te σ2 H4 Ky) (hi : ∀ a, Leaf (h a))
    (q : ∀ D H', Ext H1 H' → H1 D = none → Dom M H' → Lst K M H' D (Ls.map h) → Q (.ref D) H') : lcW (Itl K p) g tYes te vsl σ H1 Q := by
  refine lc_core' (M := M) (K := K) (walk_list (K := K) (a := p) (xs := Ls.map V.ref)) (fun i => (Ls[i]?).map h) (by rw [List.length_map]; exact hn) hM (fun H2 e => .inl (.inl (e _ _ hp))) ?_ ?_
  · intro D i x H2 H3 hlt e dm hD hy Ky Kn k1 k2
    obtain ⟨rfl, hx⟩ := hy
    rw [List.length_map] at hlt
    have hz : Ls[i]? = some Ls[i] := List.getElem?_eq_getElem hlt
    rw [List.getElem?_map, hz] at hx
    cases hx
    obtain h1 := turn Ls[i] H3 (List.getElem_mem hlt) e Ky fun y H' M' e' hd => k1 y H' _ (by rw [hz]; rfl) e' (dp_leaf (hi _) hd)
    exact h1
  · intro D H' e dm hD hd
    rw [List.length_map] at hd
    have := range_filterMap (fun a => some (h a)) Ls
    have e2 : (fun i : Nat => Ls[i]?.bind fun a => some (h a)) = fun i : Nat => (Ls[i]?).map h := by
      funext i
      cases Ls[i]? <;> rfl
    rw [e2, fm_map] at this
    rw [this] at hd
    exact q D H' e hD dm hd
/-- for one in lists: each is changed, none of it known elsewhere -/
theorem fr_L {p : Addr} {Ls : List Addr} {rt : VK} {nx : L2.St → Hp → Prop} (F : List V → List V) (hp : H p = some (.lst (Ls.map V.ref))) (hnp : p ∉ Ls) (hnd : Ls.Nodup) (hl : ∀ a ∈ Ls, ∃ xs, H a = some (.lst xs)) (S : L2.St → Prop) (hS : S σ)
    (turn : ∀ (a : Addr) (xs : List V) (σ' : L2.St) (H2 : Hp), a ∈ Ls → S σ' → H a = some (.lst xs) → H2 a = some (.lst xs) → ∀ (N : L2.St → Hp → Prop), (∀ σ2 H3, S σ2 → But a H2 H3 → H3 a = some (.lst (F xs)) → N σ2 H3) → g (.ref a) σ' H2 fun σ2 H3 => tb ⟨N, rt, nx, N⟩ σ2 H3)
    (done : ∀ σ' H', S σ' → ButS Ls H H' → (∀ a xs, a ∈ Ls → H a = some (.lst xs) → H' a = some (.lst (F xs))) → nx σ' H') : forW (Itl K p) g tb rt nx σ H := by
  refine f_it (walk_list (K := K) (a := p) (xs := Ls.map V.ref)) (fun i σ' H' => S σ' ∧ ButS Ls H H' ∧ (∀ a xs, a ∈ Ls → H a = some (.lst xs) → H' a = some (.lst (if a ∈ Ls.take i then F xs else xs)))) ⟨hS, fun _ _ _ h => h, fun a xs _ h => by simpa using h⟩ (fun i σ' H' _ ⟨_, b, _⟩ => .inl (.inl (b _ _ hnp hp))) ?_ ?_
  · rintro i x σ' H2 H3 hi ⟨s, b, hc⟩ hy
    obtain ⟨rfl, hx⟩ := hy
    rw [List.length_map] at hi
    have hz : Ls[i]? = some Ls[i] := List.getElem?_eq_getElem hi
    rw [List.getElem?_map, hz] at hx
    cases hx
    have hm : Ls[i] ∈ Ls := List.getElem_mem hi
    obtain ⟨xs, hxs⟩ := hl _ hm
    have hni : Ls[i] ∉ Ls.take i := fun z => by
      obtain ⟨j, hj, e⟩ := List.mem_take_iff_getElem.mp z
      have := (List.getElem_inj hnd).mp e
      omega
    have h2 := hc _ xs hm hxs
    rw [if_neg hni] at h2
    refine turn Ls[i] xs σ' H3 hm s hxs h2 _ fun σ2 H4 s2 b2 h4 => ⟨s2, b.trans (b2.butS hm), fun a ys ha hy => ?_⟩
    have tk : Ls.take (i + 1) = Ls.take i ++ [Ls[i]] := by rw [List.take_succ, hz]; rfl
    by_cases e : a = Ls[i]
    · subst e
      rw [hxs] at hy
      cases hy
      rw [if_pos (by rw [tk]; exact List.mem_append_right _ List.mem_cons_self)]
      exact h4
    · have h5 := b2 a _ e (hc a ys ha hy)
      have e3 : a ∈ Ls.take (i + 1) ↔ a ∈ Ls.take i := by
        rw [tk, List.mem_append, List.mem_singleton]
        exact ⟨fun z => z.elim id fun z => absurd z e, .inl⟩
      by_cases c : a ∈ Ls.take i
      · rw [if_pos c] at h5
        rw [if_pos (e3.mpr c)]; exact h5
      · rw [if_neg c] at h5
        rw [if_neg (fun z => c (e3.mp z))]; exact h5
  · rintro σ' H' ⟨s, b, hc⟩
    rw [List.length_map, List.take_length] at hc
    exact done σ' H' s b fun a xs ha h => by
      have := hc a xs ha h
      rw [if_pos ha] at this
      exact this
end
mutual
theorem tr_lens {H : Hp} : ∀ {v : V} {d : PyData} {L : List Addr}, Tr H v d L → ∀ a ∈ L, ∀ xs, H a = some (.lst xs) → xs.length ≤ szD d
  | _, _, _, .non, _, h, _, _ => nomatch h
  | _, _, _, .bl _, _, h, _, _ => nomatch h
  | _, _, _, .int _, _, h, _, _ => nomatch h
  | _, _, _, .str _, _, h, _, _ => nomatch h
  | _, .list ds, _, .lst h r _, a, m, xs, hx => by
    have hd : szD (.list ds) = szA ds + 1 := rfl
    rcases List.mem_cons.mp m with z | m
    · rw [z, h] at hx
      cases hx
      have := trAll_len r
      have := szA_len ds
      omega
    · have := trAll_lens r a m xs hx
      omega
  | _, .tuple ds, _, .tup _ r, a, m, xs, hx => by
    have hd : szD (.tuple ds) = szA ds + 1 := rfl
    have := trAll_lens r a m xs hx
    omega
theorem trAll_lens {H : Hp} : ∀ {vs : List V} {ds : List PyData} {L : List Addr}, TrAll H vs ds L → ∀ a ∈ L, ∀ xs, H a = some (.lst xs) → xs.length ≤ szA ds
  | _, _, _, .nil, _, h, _, _ => nomatch h
  | _, d :: ds, _, .cons h r _, a, m, xs, hx => by
    have hd : szA (d :: ds) = szD d + szA ds := rfl
    rcases List.mem_append.mp m with m | m
    · have := tr_lens h a m xs hx
      omega
    · have := trAll_lens r a m xs hx
      omega
end
/-! ## sizes of papers -/
theorem szA_nums (ns : List Nat) : szA (dNums ns) = ns.length := by
  induction ns with
  | nil => rfl
  | cons a r ih =>
    show szD (.int _) + szA (dNums r) = _
    rw [ih, List.length_cons]; show 1 + _ = _; omega
theorem szA_map {α : Type} {f : α → PyData} {c : Nat} : ∀ {l : List α}, (∀ x ∈ l, szD (f x) ≤ c) → szA (l.map f) ≤ l.length * c
  | [], _ => Nat.zero_le _
  | a :: r, h => by
    have h1 := h a List.mem_cons_self
    have h2 := szA_map (f := f) (l := r) fun x m => h x (List.mem_cons_of_mem _ m)
    rw [List.map_cons, szA, List.length_cons, Nat.succ_mul]; omega
theorem sz_paper {w : Str} {t : Thing} (h : okThing t) : szD (dPaper w t) ≤ 50000 := by
  have key : szD (dThing t) ≤ 40000 → szD (dPaper w t) ≤ 50000 := fun k => by
    show szA [.str w, dThing t] + 1 ≤ _
    rw [szA, szA, szA]; show 1 + (_ + 0) + 1 ≤ _; omega
  refine key ?_
  cases t with
  | nums ns => show szA (dNums ns) + 1 ≤ _; rw [szA_nums]; have := h.1; omega
  | lists ls =>
    show szA (ls.map fun ns => PyData.list (dNums ns)) + 1 ≤ _
    have := szA_map (f := fun ns => PyData.list (dNums ns)) (c := 101) (l := ls) fun ns m => by
      show szA (dNums ns) + 1 ≤ _
      rw [szA_nums]; have := (h.2 ns m).1; omega
    have := h.1
    omega
  | ties ts =>
    show szA (ts.map dTie) + 1 ≤ _
    have := szA_map (f := dTie) (c := 3) (l := ts) fun t _ => Nat.le_refl 3
    have := h.1
    omega
  | row f ss =>
    have := szA_map (f := dStp) (c := 100) (l := ss) fun s m => by
      have ok := h.2.2 s m
      cases s with
      | tie a b => show 4 ≤ 100; decide
      | place p ps =>
        have := szA_map (f := dTie) (c := 3) (l := ps) fun t _ => Nat.le_refl 3
        have hp := ok.2.1
        show szA [.str "place", .int p, .list (ps.map dTie)] + 1 ≤ _
        rw [szA, szA, szA, szA]
        show 1 + (1 + ((szA (ps.map dTie) + 1) + 0)) + 1 ≤ _
        omega
    have hl := h.2.1
    show szA [.int f, .list (ss.map dStp)] + 1 ≤ _
    rw [szA, szA, szA]
    show 1 + ((szA (ss.map dStp) + 1) + 0) + 1 ≤ _
    omega
theorem is_nums (ns : List Nat) : isISA (dNums ns) = true := isISA_of fun d m => by
  obtain ⟨n, _, rfl⟩ := List.mem_map.mp m; rfl
theorem is_ties (ts : List (Nat × Nat)) : isISA (ts.map dTie) = true := isISA_of fun d m => by
  obtain ⟨n, _, rfl⟩ := List.mem_map.mp m; rfl
theorem is_paper (w : Str) (t : Thing) : isIS (dPaper w t) = true := by
  show (true && (isIS (dThing t) && true)) = true
  have key : isIS (dThing t) = true := by
    cases t with
    | nums ns => exact is_nums ns
    | lists ls =>
      refine isISA_of fun d m => ?_
      obtain ⟨ns, _, rfl⟩ := List.mem_map.mp m
      exact is_nums ns
    | ties ts => exact is_ties ts
    | row f ss =>
      show (true && (isISA (ss.map dStp) && true)) = true
      have k : isISA (ss.map dStp) = true := by
        refine isISA_of fun d m => ?_
        obtain ⟨s, _, rfl⟩ := List.mem_map.mp m
        cases s with
        | tie a b => rfl
        | place p ps =>
          show (true && (true && (isISA (ps.map dTie) && true))) = true
          rw [is_ties]; rfl
      rw [k]; rfl
  rw [key]; rfl
theorem shp_paper {w : Str} {t : Thing} (h : okWord w t) : Shp 6 (dPaper w t) := by
  have key : ∀ A : List Str, (∀ x ∈ A, (PyData.str x).canLay0 = true) → w ∈ A → (PyData.str w).canLay0 = true := fun A k m => k w m
  have hw : (PyData.str w).canLay0 = true := by
    cases t with
    | nums _ => exact key _ (by decide +kernel) h
    | lists _ => exact key _ (by decide +kernel) h
    | ties _ => exact key ["ties"] (by decide +kernel) (List.mem_singleton.mpr h)
    | row _ _ => exact key ["row"] (by decide +kernel) (List.mem_singleton.mpr h)
  exact .tup (shp_two (.str hw) (shp_thing t))
end Hf

namespace L74
open PySem PySem.Spec PyProof.Rows L2 Hf
local macro_rules | `(tactic| walk_at "lst") => `(tactic| first | assumption | (apply Lst.ext'; (assumption); (walk_at "lst")))
local macro_rules | `(tactic| walk_at "dp") => `(tactic| first | assumption | exact .int _ | exact .str _ | exact .bl _ | exact .non | (apply Lst.dp; (walk_at "lst")) | (apply dpx; (assumption); (walk_at "dp")) | (apply dpb; (assumption); (first | assumption | simp); (walk_at "dp")))
local macro_rules | `(tactic| walk_at "ext") => `(tactic| first | assumption | exact Ext.refl _ | exact Ext.trans' (by assumption) (by walk_at "ext"))
local macro_rules | `(tactic| walk_at "dpk") => `(tactic| first | assumption | (apply dpx; (assumption); (walk_at "dpk")))
local macro_rules | `(tactic| walk_at "dps") => `(tactic| first | exact .nil | (apply DpAll.cons; (walk_at "dp"); (walk_at "dps")))
local macro_rules | `(tactic| walk_at "s0") => `(tactic| first
  | ((with_reducible apply w_var); exact rfl)
  | with_reducible refine w_op ?_
  | with_reducible refine iteT ?_
  | with_reducible refine iteF ?_
  | with_reducible refine ite_nT ?_
  | with_reducible refine ite_nF ?_
  | with_reducible refine w_c ?_
  | with_reducible refine w_js ?_
  | with_reducible refine w_js0 ?_
  | with_reducible refine w_fmt ?_
  | with_reducible refine w_tyes ?_
  | with_reducible refine w_cons ?_
  | with_reducible refine w_nil ?_
  | with_reducible refine w_I0 ?_
  | with_reducible refine w_U ?_
  | with_reducible refine w_un ?_
  | with_reducible refine w_cb ?_
  | with_reducible refine w_test ?_
  | with_reducible refine w_B ?_
  | with_reducible refine w_blV ?_
  | with_reducible refine w_eqI ?_
  | with_reducible refine w_neI ?_
  | with_reducible refine w_eqS ?_
  | with_reducible refine w_neS ?_
  | with_reducible refine w_int1 ?_
  | with_reducible refine w_and ?_
  | with_reducible refine w_or ?_
  | with_reducible refine w_not ?_
  | with_reducible refine w_andV ?_
  | with_reducible refine w_orV ?_
  | with_reducible refine w_notV ?_
  | with_reducible refine w_if ?_
  | with_reducible refine w_tup ?_
  | with_reducible refine w_lst ?_
  | with_reducible refine w_fn ?_
  | with_reducible refine w_chain ?_
  | with_reducible refine w_chain3 ?_
  | with_reducible refine w_sl ?_
  | with_reducible refine w_part ?_
  | with_reducible refine w_noPart ?_
  | with_reducible refine w_bm ?_
  | with_reducible refine w_bm0 ?_
  | with_reducible refine w_lc ?_
  | with_reducible refine w_m1 ?_
  | with_reducible refine w_isS ?_
  | with_reducible refine w_abs ?_
  | with_reducible refine w_max ?_
  | with_reducible refine w_min ?_
  | with_reducible refine w_intI ?_
  | with_reducible refine w_intB ?_
  | with_reducible refine w_isiII ?_
  | with_reducible refine w_isiIB ?_
  | with_reducible refine w_isiSS ?_
  | with_reducible refine w_inSg ?_
  | with_reducible refine w_niSg ?_
  | with_reducible refine w_isNn ?_
  | with_reducible refine w_noNn ?_
  | with_reducible refine i_list ?_
  | with_reducible refine i_tup ?_
  | with_reducible refine i_str ?_
  | with_reducible refine i_strD ?_
  | with_reducible refine i_rng1 ?_
  | with_reducible refine i_rng2 ?_
  | with_reducible refine i_enum ?_
  | with_reducible refine i_zip ?_
  | with_reducible refine s_asg ?_
  | with_reducible refine s_asg1 ?_
  | with_reducible refine s_asgG ?_
  | with_reducible refine s_asgG1 ?_
  | with_reducible refine s_par ?_
  | with_reducible refine s_par2 ?_
  | with_reducible refine s_drop ?_
  | with_reducible refine s_drop1 ?_
  | with_reducible refine s_ret ?_
  | with_reducible refine s_retN ?_
  | with_reducible refine s_retS ?_
  | with_reducible refine s_next ?_
  | with_reducible refine s_nextS ?_
  | with_reducible refine s_if ?_
  | with_reducible refine s_if1 ?_
  | with_reducible refine s_for ?_
  | with_reducible refine s_for1 ?_
  | with_reducible refine s_brk ?_
  | with_reducible refine s_cnt ?_
  | with_reducible refine g_name ?_
  | with_reducible refine g_set ?_
  | ((with_reducible apply w_ixR); assumption; exact rfl)
  | ((with_reducible apply w_lenTn); (walk_at "dpk"); (first | (simp only [List.length_map, List.length_cons, List.length_nil, dNums_len, List.length_append, List.length_replicate]; exact rfl) | exact rfl))
  | ((with_reducible apply w_lenLn); (walk_at "dpk"); (first | (simp only [List.length_map, List.length_cons, List.length_nil, dNums_len, List.length_append, List.length_replicate]; exact rfl) | exact rfl))
  | ((with_reducible apply w_ixInt); (walk_at "dpk"); (first | exact rfl | exact at_zero | exact at_one))
  | ((with_reducible apply w_ixTInt); (walk_at "dpk"); (first | exact rfl | exact at_zero | exact at_one))
  | ((with_reducible apply w_ixStr); (walk_at "dpk"); (first | exact rfl | exact at_zero | exact at_one))
  | ((with_reducible apply w_ixTStr); (walk_at "dpk"); (first | exact rfl | exact at_zero | exact at_one))
  | (refine w_I (c_mul ?h1) ?h2; (case h1 => omega))
  | (refine w_I (c_div ?h1) ?h2; (case h1 => omega))
  | (refine w_I (c_divW ?h1) ?h2; (case h1 => first | omega | exact ⟨by assumption, by assumption⟩))
  | (refine w_I ?h1 ?h2; (case h1 => (show (0 : Int) < _; first | omega | decide +kernel)))
  | (refine w_I (c_mulW ?h1) ?h2; (case h1 => decide +kernel))
  | (refine w_I (c_pow ?h1) ?h2; (case h1 => decide)))
local macro_rules | `(tactic| walk_at "st") => `(tactic| first
  | (walk_at "s0")
  | ((with_reducible refine w_newT (by assumption) (by assumption) (by walk_at "dps") (by first | exact Nat.le_of_ble_eq_true rfl | omega) ?_); intro p H' e hM hd)
  | ((with_reducible refine w_newL (by assumption) (by assumption) (by walk_at "dps") (by first | exact Nat.le_of_ble_eq_true rfl | omega) ?_); intro p H' e hM hd))
local macro_rules | `(tactic| walk_at "go0") => `(tactic| repeat (walk_at "s0"))
local macro_rules | `(tactic| walk_at "raw") => `(tactic| first | assumption | (refine (by assumption : Ext _ _) _ _ ?_; walk_at "raw"))
local macro_rules | `(tactic| walk_at "go") => `(tactic| repeat (walk_at "st"))

local macro_rules | `(tactic| walk_at "gy") => `(tactic| repeat (first | (walk_at "st") | refine w_yes (by omega) ?_ | refine w_no (by omega) ?_ | refine w_yesN (by omega) ?_ | refine w_noN (by omega) ?_))
local macro_rules | `(tactic| walk_at "sl") => `(tactic| first
  | (walk_at "s0")
  | ((with_reducible refine w_newT (by assumption) (by assumption) (by walk_at "dps") (by first | exact Nat.le_of_ble_eq_true rfl | omega) ?_); intro p H' e hM hd)
  | ((with_reducible refine w_newLst (by assumption) (by assumption) (by walk_at "dps") (by first | exact Nat.le_of_ble_eq_true rfl | omega) ?_); intro p H' e hM hl)
  | ((with_reducible apply w_catD); (assumption); (walk_at "lst"); (walk_at "lst"); (first | exact Nat.le_of_ble_eq_true rfl | (simp; omega)); (intro p H' e hM hl)))
local macro_rules | `(tactic| walk_at "gl") => `(tactic| repeat (walk_at "sl"))
local macro_rules | `(tactic| walk_at "bld") => `(tactic| first
  | exact bldA_nil
  | (apply bldA_cons; (walk_at "bld"); (walk_at "bld"))
  | exact bld_int
  | exact bld_str
  | exact bld_varS rfl
  | exact bld_varI rfl
  | (apply bld_tup; (walk_at "bld"); (exact Nat.le_of_ble_eq_true rfl))
  | (apply bld_lst; (walk_at "bld"); (exact Nat.le_of_ble_eq_true rfl))
  | exact bld_rep (k := 40) (by decide)
  | exact bld_rep (k := 20) (by decide)
  | (refine bld_lcR (n := 40) (f := fun i => .list [.int i]) (by decide) (fun _ => rfl) (fun i => ?h); (case h => walk_at "bld"))
  | (refine bld_lcR (n := 60) (f := fun i => .tuple [.str "tie", .int 0, .int 1]) (by decide) (fun _ => rfl) (fun i => ?h); (case h => walk_at "bld")))
def topS (i : Nat) : Stmt := PySem.Challenge.pw_holdfast_k74_papers_as_texts.main.body.getD i (.Pass ⟨0, 0, 0, 0⟩)
abbrev s__law_pile : Stmt := topS 27
theorem sc__law_pile : FnScope ["_law_script", "_law_k", "_law_cell"] ["_law_script", "_law_k"] (defScope s__law_pile) := ⟨rfl, rfl, rfl, by decide +kernel, rfl, by decide +kernel, by decide +kernel⟩
abbrev s__law_mixed : Stmt := topS 26
theorem sc__law_mixed : FnScope ["_law_cell", "_law_k", "_law_number"] ["_law_cell", "_law_k"] (defScope s__law_mixed) := ⟨rfl, rfl, rfl, by decide +kernel, rfl, by decide +kernel, by decide +kernel⟩
abbrev s__law_take : Stmt := topS 28
theorem sc__law_take : FnScope ["_law_pile_here", "_law_many", "_law_digit"] ["_law_pile_here", "_law_many"] (defScope s__law_take) := ⟨rfl, rfl, rfl, by decide +kernel, rfl, by decide +kernel, by decide +kernel⟩
abbrev s__law_great : Stmt := topS 30
theorem sc__law_great : FnScope ["_law_pile_here", "_law_way", "_law_number"] ["_law_pile_here"] (defScope s__law_great) := ⟨rfl, rfl, rfl, by decide +kernel, rfl, by decide +kernel, by decide +kernel⟩
abbrev s__law_numbers : Stmt := topS 31
theorem sc__law_numbers : FnScope ["_law_pile_here", "_law_many", "_law_k"] ["_law_pile_here", "_law_many"] (defScope s__law_numbers) := ⟨rfl, rfl, rfl, by decide +kernel, rfl, by decide +kernel, by decide +kernel⟩
abbrev s__law_pair : Stmt := topS 32
theorem sc__law_pair : FnScope ["_law_pile_here", "_law_apart", "_law_a", "_law_b"] ["_law_pile_here", "_law_apart"] (defScope s__law_pair) := ⟨rfl, rfl, rfl, by decide +kernel, rfl, by decide +kernel, by decide +kernel⟩
abbrev s__law_step : Stmt := topS 33
theorem sc__law_step : FnScope ["_law_pile_here", "_law_a", "_law_b", "_law_k"] ["_law_pile_here"] (defScope s__law_step) := ⟨rfl, rfl, rfl, by decide +kernel, rfl, by decide +kernel, by decide +kernel⟩
abbrev s__law_paper : Stmt := topS 34
theorem sc__law_paper : FnScope ["_law_pile_here", "_law_way", "_law_word", "_law_k"] ["_law_pile_here"] (defScope s__law_paper) := ⟨rfl, rfl, rfl, by decide +kernel, rfl, by decide +kernel, by decide +kernel⟩
abbrev s_show_numbers : Stmt := topS 12
theorem sc_show_numbers : FnScope ["numbers", "number"] ["numbers"] (defScope s_show_numbers) := ⟨rfl, rfl, rfl, by decide +kernel, rfl, by decide +kernel, by decide +kernel⟩
abbrev s_show_lists : Stmt := topS 14
theorem sc_show_lists : FnScope ["lists", "numbers"] ["lists"] (defScope s_show_lists) := ⟨rfl, rfl, rfl, by decide +kernel, rfl, by decide +kernel, by decide +kernel⟩
abbrev s_number_in : Stmt := topS 5
theorem sc_number_in : FnScope ["word", "sign"] ["word"] (defScope s_number_in) := ⟨rfl, rfl, rfl, by decide +kernel, rfl, by decide +kernel, by decide +kernel⟩
abbrev s_pair_in : Stmt := topS 6
theorem sc_pair_in : FnScope ["word", "parts"] ["word"] (defScope s_pair_in) := ⟨rfl, rfl, rfl, by decide +kernel, rfl, by decide +kernel, by decide +kernel⟩
abbrev s_show_pair : Stmt := topS 8
theorem sc_show_pair : FnScope ["pair"] ["pair"] (defScope s_show_pair) := ⟨rfl, rfl, rfl, by decide +kernel, rfl, by decide +kernel, by decide +kernel⟩
abbrev s_show_ties : Stmt := topS 16
theorem sc_show_ties : FnScope ["ties", "tie"] ["ties"] (defScope s_show_ties) := ⟨rfl, rfl, rfl, by decide +kernel, rfl, by decide +kernel, by decide +kernel⟩
abbrev s_show_step : Stmt := topS 18
theorem sc_show_step : FnScope ["step", "pair"] ["step"] (defScope s_show_step) := ⟨rfl, rfl, rfl, by decide +kernel, rfl, by decide +kernel, by decide +kernel⟩
abbrev s_show_row : Stmt := topS 21
theorem sc_show_row : FnScope ["row", "first", "steps", "step"] ["row"] (defScope s_show_row) := ⟨rfl, rfl, rfl, by decide +kernel, rfl, by decide +kernel, by decide +kernel⟩
abbrev s_show_paper : Stmt := topS 23
theorem sc_show_paper : FnScope ["paper", "word", "thing"] ["paper"] (defScope s_show_paper) := ⟨rfl, rfl, rfl, by decide +kernel, rfl, by decide +kernel, by decide +kernel⟩
abbrev s__law_empty : Stmt := topS 39
theorem sc__law_empty : FnScope ["_law_found", "_law_word", "_law_k"] [] (defScope s__law_empty) := ⟨rfl, rfl, rfl, by decide +kernel, rfl, by decide +kernel, by decide +kernel⟩
abbrev s__law_numbers_text : Stmt := topS 35
theorem sc__law_numbers_text : FnScope ["_law_numbers_here", "_law_number"] ["_law_numbers_here"] (defScope s__law_numbers_text) := ⟨rfl, rfl, rfl, by decide +kernel, rfl, by decide +kernel, by decide +kernel⟩
abbrev s__law_pairs_text : Stmt := topS 36
theorem sc__law_pairs_text : FnScope ["_law_pairs", "_law_a", "_law_b"] ["_law_pairs"] (defScope s__law_pairs_text) := ⟨rfl, rfl, rfl, by decide +kernel, rfl, by decide +kernel, by decide +kernel⟩
abbrev s__law_step_text : Stmt := topS 37
theorem sc__law_step_text : FnScope ["_law_step_here", "_law_pair_here"] ["_law_step_here"] (defScope s__law_step_text) := ⟨rfl, rfl, rfl, by decide +kernel, rfl, by decide +kernel, by decide +kernel⟩
abbrev s__law_paper_text : Stmt := topS 38
theorem sc__law_paper_text : FnScope ["_law_paper_here", "_law_word", "_law_thing", "_law_step_here", "_law_numbers_here"] ["_law_paper_here"] (defScope s__law_paper_text) := ⟨rfl, rfl, rfl, by decide +kernel, rfl, by decide +kernel, by decide +kernel⟩
abbrev s_read_numbers : Stmt := topS 13
theorem sc_read_numbers : FnScope ["text", "word"] ["text"] (defScope s_read_numbers) := ⟨rfl, rfl, rfl, by decide +kernel, rfl, by decide +kernel, by decide +kernel⟩
abbrev s_read_lists : Stmt := topS 15
theorem sc_read_lists : FnScope ["text", "part"] ["text"] (defScope s_read_lists) := ⟨rfl, rfl, rfl, by decide +kernel, rfl, by decide +kernel, by decide +kernel⟩
abbrev s_tie_in : Stmt := topS 7
theorem sc_tie_in : FnScope ["word", "a", "b"] ["word"] (defScope s_tie_in) := ⟨rfl, rfl, rfl, by decide +kernel, rfl, by decide +kernel, by decide +kernel⟩
abbrev s_read_ties : Stmt := topS 17
theorem sc_read_ties : FnScope ["text", "word"] ["text"] (defScope s_read_ties) := ⟨rfl, rfl, rfl, by decide +kernel, rfl, by decide +kernel, by decide +kernel⟩
abbrev s_even_pair : Stmt := topS 19
theorem sc_even_pair : FnScope ["word", "a", "b"] ["word"] (defScope s_even_pair) := ⟨rfl, rfl, rfl, by decide +kernel, rfl, by decide +kernel, by decide +kernel⟩
abbrev s_read_step : Stmt := topS 20
theorem sc_read_step : FnScope ["text", "words", "a", "b", "word"] ["text"] (defScope s_read_step) := ⟨rfl, rfl, rfl, by decide +kernel, rfl, by decide +kernel, by decide +kernel⟩
abbrev s_read_row : Stmt := topS 22
theorem sc_read_row : FnScope ["text", "parts", "part"] ["text"] (defScope s_read_row) := ⟨rfl, rfl, rfl, by decide +kernel, rfl, by decide +kernel, by decide +kernel⟩
abbrev s_read_paper : Stmt := topS 24
theorem sc_read_paper : FnScope ["text", "word", "mark", "rest"] ["text"] (defScope s_read_paper) := ⟨rfl, rfl, rfl, by decide +kernel, rfl, by decide +kernel, by decide +kernel⟩
abbrev s__law_flat : Stmt := topS 40
theorem sc__law_flat : FnScope ["_law_thing", "_law_left", "_law_found", "_law_one"] ["_law_thing"] (defScope s__law_flat) := ⟨rfl, rfl, rfl, by decide +kernel, rfl, by decide +kernel, by decide +kernel⟩
abbrev s__law_lists : Stmt := topS 44
theorem sc__law_lists : FnScope ["_law_thing", "_law_found", "_law_left", "_law_one"] ["_law_thing"] (defScope s__law_lists) := ⟨rfl, rfl, rfl, by decide +kernel, rfl, by decide +kernel, by decide +kernel⟩
abbrev s__law_whole : Stmt := topS 29
theorem sc__law_whole : FnScope ["_law_number"] ["_law_number"] (defScope s__law_whole) := ⟨rfl, rfl, rfl, by decide +kernel, rfl, by decide +kernel, by decide +kernel⟩
abbrev s__law_kinds : Stmt := topS 41
theorem sc__law_kinds : FnScope ["_law_told", "_law_paper_here", "_law_one", "_law_other"] ["_law_told", "_law_paper_here"] (defScope s__law_kinds) := ⟨rfl, rfl, rfl, by decide +kernel, rfl, by decide +kernel, by decide +kernel⟩
abbrev s__law_shown_anew : Stmt := topS 43
theorem sc__law_shown_anew : FnScope ["_law_paper_here", "_law_rows", "_law_some", "_law_word"] ["_law_paper_here"] (defScope s__law_shown_anew) := ⟨rfl, rfl, rfl, by decide +kernel, rfl, by decide +kernel, by decide +kernel⟩
abbrev s__law_kept : Stmt := topS 42
theorem sc__law_kept : FnScope ["_law_paper_here", "_law_due", "_law_flat_here", "_law_turn", "_law_text", "_law_told", "_law_one", "_law_lists_here", "_law_many", "_law_number"] ["_law_paper_here"] (defScope s__law_kept) := ⟨rfl, rfl, rfl, by decide +kernel, rfl, by decide +kernel, by decide +kernel⟩
abbrev s_law : Stmt := topS 45
theorem sc_law : FnScope ["_law_script", "_law_at", "_law_paper_here"] ["_law_script"] (defScope s_law) := ⟨rfl, rfl, rfl, by decide +kernel, rfl, by decide +kernel, by decide +kernel⟩
structure Txt (K : PySem.W.Frag) (mg : Str → Option Value) : Prop where
  c_FIGURES : ∃ t, mg "FIGURES" = some (.str "0123456789" t)
  c_LISTS : mg "LISTS" = some (.ref (He.ga K "LISTS"))
  c_NUMBERS : mg "NUMBERS" = some (.ref (He.ga K "NUMBERS"))
  m_abs : mg "abs" = none
  m_any : mg "any" = none
  m_bool : mg "bool" = none
  m_int : mg "int" = none
  m_isinstance : mg "isinstance" = none
  m_len : mg "len" = none
  m_list : mg "list" = none
  m_max : mg "max" = none
  m_min : mg "min" = none
  m_range : mg "range" = none
  m_str : mg "str" = none
  m_tuple : mg "tuple" = none
  m_zip : mg "zip" = none
  f__law_pile : At K mg "_law_pile" s__law_pile
  f__law_mixed : At K mg "_law_mixed" s__law_mixed
  f__law_take : At K mg "_law_take" s__law_take
  f__law_great : At K mg "_law_great" s__law_great
  f__law_numbers : At K mg "_law_numbers" s__law_numbers
  f__law_pair : At K mg "_law_pair" s__law_pair
  f__law_step : At K mg "_law_step" s__law_step
  f__law_paper : At K mg "_law_paper" s__law_paper
  f_show_numbers : At K mg "show_numbers" s_show_numbers
  f_show_lists : At K mg "show_lists" s_show_lists
  f_number_in : At K mg "number_in" s_number_in
  f_pair_in : At K mg "pair_in" s_pair_in
  f_show_pair : At K mg "show_pair" s_show_pair
  f_show_ties : At K mg "show_ties" s_show_ties
  f_show_step : At K mg "show_step" s_show_step
  f_show_row : At K mg "show_row" s_show_row
  f_show_paper : At K mg "show_paper" s_show_paper
  f__law_empty : At K mg "_law_empty" s__law_empty
  f__law_numbers_text : At K mg "_law_numbers_text" s__law_numbers_text
  f__law_pairs_text : At K mg "_law_pairs_text" s__law_pairs_text
  f__law_step_text : At K mg "_law_step_text" s__law_step_text
  f__law_paper_text : At K mg "_law_paper_text" s__law_paper_text
  f_read_numbers : At K mg "read_numbers" s_read_numbers
  f_read_lists : At K mg "read_lists" s_read_lists
  f_tie_in : At K mg "tie_in" s_tie_in
  f_read_ties : At K mg "read_ties" s_read_ties
  f_even_pair : At K mg "even_pair" s_even_pair
  f_read_step : At K mg "read_step" s_read_step
  f_read_row : At K mg "read_row" s_read_row
  f_read_paper : At K mg "read_paper" s_read_paper
  f__law_flat : At K mg "_law_flat" s__law_flat
  f__law_lists : At K mg "_law_lists" s__law_lists
  f__law_whole : At K mg "_law_whole" s__law_whole
  f__law_kinds : At K mg "_law_kinds" s__law_kinds
  f__law_shown_anew : At K mg "_law_shown_anew" s__law_shown_anew
  f__law_kept : At K mg "_law_kept" s__law_kept
  f_law : At K mg "law" s_law
  u_NUMBERS : He.tupB K "NUMBERS" [.str "side", .str "lot", .str "setting"] = true
  u_LISTS : He.tupB K "LISTS" [.str "ways", .str "trees", .str "woods", .str "parting", .str "lots"] = true
def sp__law_pile (K : PySem.W.Frag) : Sp := fun vs H Q _ => ∃ (a : Addr) (ns : List Int) (k : Int), vs = [.ref a, .int k] ∧ SqL K H a (ns.map V.int) ∧ 0 ≤ k ∧ ∀ H' p, H p = none → Ext H H' → PileAt H' p → Q (.ref p) H'
theorem ok__law_pile {P : Program} {w : World} {K : PySem.W.Frag} {mg : Str → Option Value} {base : Heap} (T : Txt K mg) : OkF P w K mg base CX0 1 "_law_pile" ["_law_script", "_law_k"] (sp__law_pile K) := by
  refine okF0 T.f__law_pile sc__law_pile (fun vs H Q E h => ?_) (fun _ _ _ _ _ _ us hl => match us, hl with | [_, _], _ => rfl) (fun cdv A outer s H vs Q E hr h => ?_)
  · obtain ⟨a, ns, k, rfl, hS, hk, q⟩ := h
    rfl
  · have hu := hu_of hr
    have kt : KTok K := rfl
    refine ⟨_, (pss_cons (ps_set (i := 2) sc__law_pile.nd rfl (Or.inl rfl) pe_int)
      (pss_cutH (ps_if (pt_cmpR op_lt (pv 1) (pe_callB cn_len (by rfl) T.m_len (by decide +kernel) (pa_cons (pv 0) pa_nil)) (nomark _)) (pss_one (ps_set (i := 2) sc__law_pile.nd rfl (Or.inl rfl) (pe_ix ix_list (pv 0) (pv 1) (fun _ _ => rfl)))) pss_nil)
      (pss_one (ps_ret (pe_lst (pa_cons (pe_ix ix_list (pe_lst (pa_cons pe_int (pa_cons (pe_op op_mod (pv 2) (pe_op op_mulW (pe_op op_mulW (pe_op op_pow pe_int pe_int) (pe_op op_pow pe_int pe_int)) (pe_op op_pow pe_int pe_int))) pa_nil))) (pe_callTy cn_int (by rfl) T.m_int (by decide +kernel) (pa_cons (pe_cmpR op_ge (pe_callB cn_abs (by rfl) T.m_abs (by decide +kernel) (pa_cons (pv 2) pa_nil)) (pe_op op_pow pe_int pe_int) (nomark _)) pa_nil)) (fun _ _ => rfl)) (pa_cons (pe_op op_mod (pv 2) pe_int) (pa_cons (pe_op op_mul pe_int (pv 1)) pa_nil)))))))), ?_⟩
    obtain ⟨a, ns, k, rfl, hS, hk, q⟩ := h
    try dsimp only [cxOf, Cx.nox, Cx.wish]
    refine start_as (σ := [some _, some _, none]) rfl ?_
    have hM : Dom [] H := Dom.nil
    walk_at "go"
    refine s_cut (fun σ' H' => ∃ c, σ' = [some (.ref a), some (.int k), some (.int c)] ∧ H' = H) ?_ ?_
    · walk_at "go"
      refine w_lenR hS ?_
      walk_at "go"
      refine w_ite (fun c => ?_) (fun c => ?_)
      · rw [List.length_map] at c
        obtain ⟨j, rfl⟩ : ∃ j : Nat, k = (j : Int) := ⟨k.toNat, by omega⟩
        have hj : j < ns.length := by omega
        walk_at "go"
        refine ⟨a, _, _, .int ns[j], rfl, rfl, hS, atI_nat (by rw [List.getElem?_map, List.getElem?_eq_getElem hj]; rfl), ?_⟩
        exact ⟨_, rfl, rfl⟩
      · walk_at "go"
        exact ⟨_, rfl, rfl⟩
    · rintro σ' H' ⟨c, rfl, rfl⟩
      walk_at "go"
      refine w_ixI [0, _] (by assumption) (by split <;> omega) (by show _ < (2 : Int); split <;> omega) fun n _ => ?_
      walk_at "go0"
      rename_i p₁ H₁ e₁ _ _ _
      refine w_newR (by exact Nat.le_of_ble_eq_true rfl) fun p H₂ hp e h => ?_
      exact q H₂ p (fresh_back e₁ hp) (e₁.trans e) ⟨_, _, _, h⟩
def sp__law_mixed (K : PySem.W.Frag) : Sp := fun vs H Q _ => ∃ b c : Int, vs = [.int b, .int c] ∧ ∀ r : Int, 0 ≤ r → Q (.int r) H
theorem ok__law_mixed {P : Program} {w : World} {K : PySem.W.Frag} {mg : Str → Option Value} {base : Heap} (T : Txt K mg) : OkF P w K mg base CX0 1 "_law_mixed" ["_law_cell", "_law_k"] (sp__law_mixed K) := by
  refine okF0 T.f__law_mixed sc__law_mixed (fun vs H Q E h => ?_) (fun _ _ _ _ _ _ us hl => match us, hl with | [_, _], _ => rfl) (fun cdv A outer s H vs Q E hr h => ?_)
  · obtain ⟨b, c, rfl, q⟩ := h
    rfl
  · have hu := hu_of hr
    have kt : KTok K := rfl
    refine ⟨_, (pss_cons (ps_set (i := 2) sc__law_mixed.nd rfl (Or.inl rfl) (pe_op op_mod (pe_op op_add (pe_op op_add (pe_op op_mul (pe_op op_mod (pv 0) pe_int) pe_int) (pe_op op_mul (pv 1) pe_int)) pe_int) pe_int))
      (pss_cons (ps_set (i := 2) sc__law_mixed.nd rfl (Or.inl rfl) (pe_op op_mod (pe_op op_mul (pv 2) (pv 2)) pe_int))
      (pss_one (ps_ret (pe_op op_fdiv (pe_op op_mod (pe_op op_mul (pv 2) (pv 2)) pe_int) pe_int))))), ?_⟩
    obtain ⟨b, c, rfl, q⟩ := h
    try dsimp only [cxOf, Cx.nox, Cx.wish]
    refine start_as (σ := [some _, some _, none]) rfl ?_
    walk_at "go"
    exact q _ (by omega)
def sp__law_take (K : PySem.W.Frag) : Sp := fun vs H Q _ => ∃ (pl : Addr) (m : Int), vs = [.ref pl, .int m] ∧ 0 < m ∧ m < 2 ^ 200 ∧ PileAt H pl ∧ ∀ H' r, But pl H H' → PileAt H' pl → 0 ≤ r → r < m → Q (.int r) H'
theorem ok__law_take {P : Program} {w : World} {K : PySem.W.Frag} {mg : Str → Option Value} {base : Heap} (T : Txt K mg) (O__law_mixed : OkF P w K mg base CX0 1 "_law_mixed" ["_law_cell", "_law_k"] (sp__law_mixed K)) : OkF P w K mg base CX0 2 "_law_take" ["_law_pile_here", "_law_many"] (sp__law_take K) := by
  refine okF0 T.f__law_take sc__law_take (fun vs H Q E h => ?_) (fun _ _ _ _ _ _ us hl => match us, hl with | [_, _], _ => rfl) (fun cdv A outer s H vs Q E hr h => ?_)
  · obtain ⟨pl, m, rfl, hm, hm2, ⟨a, b, c, hp⟩, q⟩ := h
    rfl
  · have hu := hu_of hr
    have kt : KTok K := rfl
    refine ⟨_, (pss_cons (ps_if (pt_cmpR op_in_seq (pe_ix ix_list (pv 0) pe_int (fun _ _ => rfl)) (pe_lst (pa_cons pe_int (pa_cons (pe_un un_neg pe_int) pa_nil))) (by rfl)) (pss_cons (ps_asg (pe_op op_add (pe_ix ix_list (pv 0) pe_int (fun _ _ => rfl)) pe_int) (pg_sub (pv 0) pe_int set_list))
      (pss_one (ps_ret (pe_op op_mod (pe_callF O__law_mixed (hr.mono (by first | decide | omega)) (by rfl) pass0 (pa_cons (pe_ix ix_list (pv 0) pe_int (fun _ _ => rfl)) (pa_cons (pe_ix ix_list (pv 0) pe_int (fun _ _ => rfl)) pa_nil))) (pv 1))))) pss_nil)
      (pss_cons (ps_set (i := 2) sc__law_take.nd rfl (Or.inl rfl) (pe_op op_mod (pe_ix ix_list (pv 0) pe_int (fun _ _ => rfl)) (pv 1)))
      (pss_cons (ps_asg (pe_op op_fdivW (pe_ix ix_list (pv 0) pe_int (fun _ _ => rfl)) (pv 1)) (pg_sub (pv 0) pe_int set_list))
      (pss_one (ps_ret (pv 2)))))), ?_⟩
    obtain ⟨pl, m, rfl, hm, hm2, ⟨a, b, c, hp⟩, q⟩ := h
    try dsimp only [cxOf, Cx.nox, Cx.wish]
    refine start_as (σ := [some _, some _, none]) rfl ?_
    have hM : Dom [pl] H := Dom.nil.cons (some_ne hp)
    walk_at "go"
    refine w_inI [0, -1] (.inl (by assumption)) ?_
    rename_i p₁ H₁ e₁ hM₁ hd₁
    have hp1 := e₁ _ _ hp
    walk_at "go"
    refine w_ite (fun c => ?_) (fun c => ?_)
    · walk_at "go"
      refine w_setB hp1 rfl fun H2 e2 hp2 => ?_
      walk_at "go"
      refine ⟨_, _, rfl, fun r hr => ?_⟩
      walk_at "go"
      exact q _ _ (e₁.but.trans e2) ⟨_, _, _, hp2⟩ (Int.emod_nonneg _ (by omega)) (Int.emod_lt_of_pos _ hm)
    · walk_at "go"
      refine w_setB hp1 rfl fun H2 e2 hp2 => ?_
      walk_at "go"
      exact q _ _ (e₁.but.trans e2) ⟨_, _, _, hp2⟩ (Int.emod_nonneg _ (by omega)) (Int.emod_lt_of_pos _ hm)
def sp__law_great (K : PySem.W.Frag) : Sp := fun vs H Q _ => ∃ (pl : Addr), vs = [.ref pl] ∧ PileAt H pl ∧ ∀ H' (n : Nat), But pl H H' → PileAt H' pl → n < 9 * 10 ^ 39 → Q (.int n) H'
theorem ok__law_great {P : Program} {w : World} {K : PySem.W.Frag} {mg : Str → Option Value} {base : Heap} (T : Txt K mg) (O__law_take : OkF P w K mg base CX0 2 "_law_take" ["_law_pile_here", "_law_many"] (sp__law_take K)) : OkF P w K mg base CX0 3 "_law_great" ["_law_pile_here"] (sp__law_great K) := by
  refine okF0 T.f__law_great sc__law_great (fun vs H Q E h => ?_) (fun _ _ _ _ _ _ us hl => match us, hl with | [_], _ => rfl) (fun cdv A outer s H vs Q E hr h => ?_)
  · obtain ⟨pl, rfl, hP, q⟩ := h
    rfl
  · have hu := hu_of hr
    have kt : KTok K := rfl
    refine ⟨_, (pss_cons (ps_set (i := 1) sc__law_great.nd rfl (Or.inl rfl) (pe_callF O__law_take (hr.mono (by first | decide | omega)) (by rfl) pass0 (pa_cons (pv 0) (pa_cons pe_int pa_nil))))
      (pss_cons (ps_set (i := 2) sc__law_great.nd rfl (Or.inl rfl) (pe_callF O__law_take (hr.mono (by first | decide | omega)) (by rfl) pass0 (pa_cons (pv 0) (pa_cons (pe_op op_pow pe_int pe_int) pa_nil))))
      (pss_one (ps_ret (pe_ix ix_list (pe_lst (pa_cons (pe_op op_mod (pv 2) pe_int) (pa_cons (pe_op op_mod (pv 2) pe_int) (pa_cons (pv 2) (pa_cons (pe_op op_add (pe_op op_mul (pe_op op_add (pe_op op_mul (pv 2) (pe_op op_pow pe_int pe_int)) (pe_callF O__law_take (hr.mono (by first | decide | omega)) (by rfl) pass0 (pa_cons (pv 0) (pa_cons (pe_op op_pow pe_int pe_int) pa_nil)))) pe_int) (pe_op op_mod (pv 2) pe_int)) pa_nil))))) (pv 1) (fun _ _ => rfl)))))), ?_⟩
    obtain ⟨pl, rfl, hP, q⟩ := h
    try dsimp only [cxOf, Cx.nox, Cx.wish]
    refine start_as (σ := [some _, none, none]) rfl ?_
    have hM : Dom [pl] H := Dom.nil.cons hP.some
    walk_at "go"
    refine ⟨pl, 4, rfl, by omega, by omega, hP, fun H1 r1 e1 hP1 r10 r11 => ?_⟩
    walk_at "go"
    refine ⟨pl, 10 ^ 20, rfl, by decide, by decide, hP1, fun H2 r2 e2 hP2 r20 r21 => ?_⟩
    have hM2 := hM.but (e1.trans e2) hP2.some
    walk_at "go"
    refine w_I (c_mul (.inr (by decide +kernel))) ?_
    walk_at "go"
    refine ⟨pl, 10 ^ 19, rfl, by decide, by decide, hP2, fun H3 r3 e3 hP3 r30 r31 => ?_⟩
    have hM3 := hM2.but e3 hP3.some
    have e19 : (10 : Int) ^ Int.toNat 19 = 10000000000000000000 := by decide +kernel
    rw [e19]
    walk_at "go"
    rename_i p4 H4 e4 hM4 h4
    refine w_ixI [r2 % 8, r2 % 100, r2, (r2 * 10000000000000000000 + r3) * 9 + r2 % 9] h4 r10 r11 fun n hn => ?_
    have hn2 : 0 ≤ n ∧ n < 9 * 10 ^ 39 := by
      simp only [List.mem_cons, List.not_mem_nil, or_false] at hn
      omega
    obtain ⟨m, rfl⟩ : ∃ m : Nat, n = (m : Int) := ⟨n.toNat, by omega⟩
    exact q _ m (e1.trans (e2.trans (e3.trans e4.but))) (hP3.ext e4) (by omega)
def sp__law_numbers (K : PySem.W.Frag) : Sp := fun vs H Q _ => ∃ (pl : Addr) (many : Int), vs = [.ref pl, .int many] ∧ 0 ≤ many ∧ many ≤ 100 ∧ PileAt H pl ∧
  ∀ v H' ns L, But pl H H' → PileAt H' pl → Tr H' v (.list (dNums ns)) L → Fresh H L → (ns.length : Int) ≤ many → (∀ n ∈ ns, n < 10 ^ 40) → Q v H'
theorem ok__law_numbers {P : Program} {w : World} {K : PySem.W.Frag} {mg : Str → Option Value} {base : Heap} (T : Txt K mg) (O__law_take : OkF P w K mg base CX0 2 "_law_take" ["_law_pile_here", "_law_many"] (sp__law_take K)) (O__law_great : OkF P w K mg base CX0 3 "_law_great" ["_law_pile_here"] (sp__law_great K)) : OkF P w K mg base CX0 4 "_law_numbers" ["_law_pile_here", "_law_many"] (sp__law_numbers K) := by
  refine okF0 T.f__law_numbers sc__law_numbers (fun vs H Q E h => ?_) (fun _ _ _ _ _ _ us hl => match us, hl with | [_, _], _ => rfl) (fun cdv A outer s H vs Q E hr h => ?_)
  · obtain ⟨pl, many, rfl, m0, m1, hP, q⟩ := h
    rfl
  · have hu := hu_of hr
    have kt : KTok K := rfl
    refine ⟨_, (pss_one (ps_ret (pe_lc (own := [("_law_k", 2)]) (g := (gName 2)) (tt := tYes) (by rfl) sc__law_numbers.nd (pi_range1 (by rfl) T.m_range (pa_cons (pe_callF O__law_take (hr.mono (by first | decide | omega)) (by rfl) pass0 (pa_cons (pv 0) (pa_cons (pe_op op_add (pv 1) pe_int) pa_nil))) pa_nil)) (blkOk_by (own := [("_law_k", 2)]) (N := ["_law_pile_here", "_law_many", "_law_k"]) (sc := defScope s__law_numbers) (by decide +kernel)) (fun _ _ _ _ _ => (pg_name (i := 2) sc__law_numbers.nd rfl (Or.inl rfl))) (fun _ _ _ _ _ => pts_nil) (fun _ _ _ _ _ => (pe_callF O__law_great (hr.mono (by first | decide | omega)) (by rfl) pass0 (pa_cons (pv 0) pa_nil)))))), ?_⟩
    obtain ⟨pl, many, rfl, m0, m1, hP, q⟩ := h
    try dsimp only [cxOf, Cx.nox, Cx.wish]
    refine start_as (σ := [some _, some _, none]) rfl ?_
    walk_at "go"
    refine ⟨pl, many + 1, rfl, by omega, by omega, hP, fun H1 r1 e1 hP1 r10 r11 => ?_⟩
    walk_at "go"
    refine i_rng1D (by omega) (by omega) ?_
    refine lt_X pl (fun d => ∃ n : Nat, d = .int n ∧ n < 10 ^ 40) (by omega) hP1 (fun D i H2 hi e2 hD hP2 Ky k1 => ?_) (fun D H2 L ds hl hok e2 hP2 hD t2 f2 => ?_)
    · walk_at "go"
      refine ⟨rfl, ?_⟩
      walk_at "go"
      exact ⟨pl, rfl, hP2, fun H3 n e3 hP3 hn => k1 _ _ [] _ ⟨n, rfl, by omega⟩ e3 hP3 (.int _) .nil⟩
    · obtain ⟨ns, rfl, hns⟩ := nums_of hok
      rw [dNums_len] at hl
      exact q _ H2 ns L (e1.trans e2) hP2 t2 (f2.backB e1 hP1.some) (by omega) hns
def sp__law_pair (K : PySem.W.Frag) : Sp := fun vs H Q _ => ∃ (pl : Addr) (ap : Int), vs = [.ref pl, .int ap] ∧ (ap = 0 ∨ ap = 1) ∧ PileAt H pl ∧
  ∀ p H' (x y : Nat), But pl H H' → PileAt H' pl → H p = none → H' p = some (.tup [.int x, .int y]) → x ≤ y → (ap = 1 → x < y) → y < 10 ^ 40 → Q (.ref p) H'
theorem ok__law_pair {P : Program} {w : World} {K : PySem.W.Frag} {mg : Str → Option Value} {base : Heap} (T : Txt K mg) (O__law_great : OkF P w K mg base CX0 3 "_law_great" ["_law_pile_here"] (sp__law_great K)) : OkF P w K mg base CX0 4 "_law_pair" ["_law_pile_here", "_law_apart"] (sp__law_pair K) := by
  refine okF0 T.f__law_pair sc__law_pair (fun vs H Q E h => ?_) (fun _ _ _ _ _ _ us hl => match us, hl with | [_, _], _ => rfl) (fun cdv A outer s H vs Q E hr h => ?_)
  · obtain ⟨pl, ap, rfl, hap, hP, q⟩ := h
    rfl
  · have hu := hu_of hr
    have kt : KTok K := rfl
    refine ⟨_, (pss_cons (ps_par (i := 2) (j := 3) (by rfl) sc__law_pair.nd rfl rfl (by decide) rfl rfl (pa_cons (pe_callF O__law_great (hr.mono (by first | decide | omega)) (by rfl) pass0 (pa_cons (pv 0) pa_nil)) (pa_cons (pe_callF O__law_great (hr.mono (by first | decide | omega)) (by rfl) pass0 (pa_cons (pv 0) pa_nil)) pa_nil)) (by rfl))
      (pss_one (ps_ret (pe_tup (pa_cons (pe_callB (cn_min rfl) (by rfl) T.m_min (by decide +kernel) (pa_cons (pv 2) (pa_cons (pv 3) pa_nil))) (pa_cons (pe_op op_add (pe_callB (cn_max rfl) (by rfl) T.m_max (by decide +kernel) (pa_cons (pv 2) (pa_cons (pv 3) pa_nil))) (pe_op op_mul (pe_callTy cn_int (by rfl) T.m_int (by decide +kernel) (pa_cons (pe_cmpR op_eq (pv 2) (pv 3) (nomark _)) pa_nil)) (pv 1))) pa_nil)))))), ?_⟩
    obtain ⟨pl, ap, rfl, hap, hP, q⟩ := h
    try dsimp only [cxOf, Cx.nox, Cx.wish]
    refine start_as (σ := [some _, some _, none, none]) rfl ?_
    walk_at "go"
    refine ⟨pl, rfl, hP, fun H1 a e1 hP1 ha => ?_⟩
    walk_at "go"
    refine ⟨pl, rfl, hP1, fun H2 b e2 hP2 hb => ?_⟩
    walk_at "go0"
    obtain ⟨x, y, hx, hy, h1, h2, h3⟩ : ∃ x y : Nat, (if (b : Int) < a then (b : Int) else a) = x ∧ (if (b : Int) > a then (b : Int) else a) + (if decide ((a : Int) = b) = true then (1 : Int) else 0) * ap = y ∧ x ≤ y ∧ (ap = 1 → x < y) ∧ y < 10 ^ 40 := by
      rcases hap with rfl | rfl
      · refine ⟨min a b, max a b, ?_, ?_, by omega, fun z => by omega, by omega⟩
        · split <;> omega
        · rw [Int.mul_zero]; split <;> omega
      · by_cases ab : (a : Int) = b
        · refine ⟨a, a + 1, ?_, ?_, by omega, fun z => by omega, by omega⟩
          · split <;> omega
          · rw [decide_eq_true ab, if_pos rfl]; split <;> omega
        · refine ⟨min a b, max a b, ?_, ?_, by omega, fun z => by omega, by omega⟩
          · split <;> omega
          · rw [decide_eq_false ab, if_neg Bool.false_ne_true]; split <;> omega
    rw [hx, hy]
    refine w_newTR (by exact Nat.le_of_ble_eq_true rfl) fun p3 H3 hp3 e3 h3' => ?_
    exact q p3 H3 x y ((e1.trans e2).trans e3.but) (hP2.ext e3) (fresh_but (e1.trans e2) hP2.some hp3) h3' h1 h2 h3
def sp__law_step (K : PySem.W.Frag) : Sp := fun vs H Q _ => ∃ (pl : Addr), vs = [.ref pl] ∧ PileAt H pl ∧
  ∀ v H' s L, But pl H H' → PileAt H' pl → Tr H' v (dStp s) L → Fresh H L → okStp s → Q v H'
theorem ok__law_step {P : Program} {w : World} {K : PySem.W.Frag} {mg : Str → Option Value} {base : Heap} (T : Txt K mg) (O__law_take : OkF P w K mg base CX0 2 "_law_take" ["_law_pile_here", "_law_many"] (sp__law_take K)) (O__law_pair : OkF P w K mg base CX0 4 "_law_pair" ["_law_pile_here", "_law_apart"] (sp__law_pair K)) (O__law_great : OkF P w K mg base CX0 3 "_law_great" ["_law_pile_here"] (sp__law_great K)) : OkF P w K mg base CX0 5 "_law_step" ["_law_pile_here"] (sp__law_step K) := by
  refine okF0 T.f__law_step sc__law_step (fun vs H Q E h => ?_) (fun _ _ _ _ _ _ us hl => match us, hl with | [_], _ => rfl) (fun cdv A outer s H vs Q E hr h => ?_)
  · obtain ⟨pl, rfl, hP, q⟩ := h
    rfl
  · have hu := hu_of hr
    have kt : KTok K := rfl
    refine ⟨_, (pss_cons (ps_if (pt_cmpR op_eq (pe_callF O__law_take (hr.mono (by first | decide | omega)) (by rfl) pass0 (pa_cons (pv 0) (pa_cons pe_int pa_nil))) pe_int (nomark _)) (pss_cons (ps_asg (pe_callF O__law_pair (hr.mono (by first | decide | omega)) (by rfl) pass0 (pa_cons (pv 0) (pa_cons pe_int pa_nil))) (pg_tup rfl (pgs_cons (pg_name (i := 1) sc__law_step.nd rfl (Or.inl rfl)) (pgs_cons (pg_name (i := 2) sc__law_step.nd rfl (Or.inl rfl)) pgs_nil))))
      (pss_one (ps_ret (pe_tup (pa_cons pe_str (pa_cons (pv 1) (pa_cons (pv 2) pa_nil))))))) pss_nil)
      (pss_one (ps_ret (pe_tup (pa_cons pe_str (pa_cons (pe_callF O__law_great (hr.mono (by first | decide | omega)) (by rfl) pass0 (pa_cons (pv 0) pa_nil)) (pa_cons (pe_lc (own := [("_law_k", 3)]) (g := (gName 3)) (tt := tYes) (by rfl) sc__law_step.nd (pi_range1 (by rfl) T.m_range (pa_cons (pe_callF O__law_take (hr.mono (by first | decide | omega)) (by rfl) pass0 (pa_cons (pv 0) (pa_cons pe_int pa_nil))) pa_nil)) (blkOk_by (own := [("_law_k", 3)]) (N := ["_law_pile_here", "_law_a", "_law_b", "_law_k"]) (sc := defScope s__law_step) (by decide +kernel)) (fun _ _ _ _ _ => (pg_name (i := 3) sc__law_step.nd rfl (Or.inl rfl))) (fun _ _ _ _ _ => pts_nil) (fun _ _ _ _ _ => (pe_callF O__law_pair (hr.mono (by first | decide | omega)) (by rfl) pass0 (pa_cons (pv 0) (pa_cons pe_int pa_nil))))) pa_nil))))))), ?_⟩
    obtain ⟨pl, rfl, hP, q⟩ := h
    try dsimp only [cxOf, Cx.nox, Cx.wish]
    refine start_as (σ := [some _, none, none, none]) rfl ?_
    walk_at "go"
    refine ⟨pl, 2, rfl, by omega, by omega, hP, fun H1 r1 e1 hP1 r10 r11 => ?_⟩
    walk_at "go"
    refine w_ite (fun c => ?_) (fun c => ?_)
    · walk_at "go"
      refine ⟨pl, 1, rfl, .inr rfl, hP1, fun p2 H2 x y e2 hP2 hp2 h2 xy xy1 yb => ?_⟩
      refine g_raw2 (.inl (.inl h2)) ?_
      walk_at "go0"
      refine w_newTt (L := []) (.cons (L := []) (.str "tie") (.cons (L := []) (.int x) (.cons (L := []) (.int y) .nil fun _ z => nomatch z) fun _ z => nomatch z) fun _ z => nomatch z) (by exact Nat.le_of_ble_eq_true rfl) fun p3 H3 e3 hp3 _ t3 => ?_
      exact q _ H3 (.tie x y) [] (e1.trans (e2.trans e3.but)) (hP2.ext e3) t3 .nil ⟨xy1 rfl, yb⟩
    · walk_at "go"
      refine ⟨pl, rfl, hP1, fun H2 a e2 hP2 ha => ?_⟩
      walk_at "go"
      refine ⟨pl, 5, rfl, by omega, by omega, hP2, fun H3 r3 e3 hP3 r30 r31 => ?_⟩
      have e03 := e1.trans (e2.trans e3)
      walk_at "go"
      refine i_rng1D (by omega) (by omega) ?_
      refine lt_X pl (fun d => ∃ t : Nat × Nat, d = dTie t ∧ okPair t) (by omega) hP3 (fun D i H4 hi e4 hD hP4 Ky k1 => ?_) (fun D H4 L ds hl hok e4 hP4 hD t4 f4 => ?_)
      · walk_at "go"
        refine ⟨rfl, ?_⟩
        walk_at "go"
        exact ⟨pl, 0, rfl, .inl rfl, hP4, fun p5 H5 x y e5 hP5 hp5 h5 xy _ yb => k1 _ _ [] _ ⟨(x, y), rfl, xy, yb⟩ e5 hP5 (tr_pair h5) .nil⟩
      · obtain ⟨ps, rfl, hps⟩ := all_of dTie okPair hok
        rw [List.length_map] at hl
        walk_at "go0"
        refine w_newTt (L := L) (.cons (L := []) (.str "place") (.cons (L := []) (.int a) (trAll_one t4) fun _ z => nomatch z) fun _ z => nomatch z) (by exact Nat.le_of_ble_eq_true rfl) fun p5 H5 e5 hp5 _ t5 => ?_
        exact q _ H5 (.place a ps) L (e03.trans (e4.trans e5.but)) (hP4.ext e5) t5 (f4.backB e03 hP3.some) ⟨by omega, by omega, hps⟩
def sp__law_paper (K : PySem.W.Frag) : Sp := fun vs H Q _ => ∃ (pl : Addr), vs = [.ref pl] ∧ PileAt H pl ∧
  ∀ v H' w t L, But pl H H' → PileAt H' pl → Tr H' v (dPaper w t) L → Fresh H L → okPaper w t → Q v H'
theorem ok__law_paper {P : Program} {w : World} {K : PySem.W.Frag} {mg : Str → Option Value} {base : Heap} (T : Txt K mg) (O__law_take : OkF P w K mg base CX0 2 "_law_take" ["_law_pile_here", "_law_many"] (sp__law_take K)) (O__law_numbers : OkF P w K mg base CX0 4 "_law_numbers" ["_law_pile_here", "_law_many"] (sp__law_numbers K)) (O__law_pair : OkF P w K mg base CX0 4 "_law_pair" ["_law_pile_here", "_law_apart"] (sp__law_pair K)) (O__law_great : OkF P w K mg base CX0 3 "_law_great" ["_law_pile_here"] (sp__law_great K)) (O__law_step : OkF P w K mg base CX0 5 "_law_step" ["_law_pile_here"] (sp__law_step K)) : OkF P w K mg base CX0 6 "_law_paper" ["_law_pile_here"] (sp__law_paper K) := by
  refine okF0 T.f__law_paper sc__law_paper (fun vs H Q E h => ?_) (fun _ _ _ _ _ _ us hl => match us, hl with | [_], _ => rfl) (fun cdv A outer s H vs Q E hr h => ?_)
  · obtain ⟨pl, rfl, hP, q⟩ := h
    rfl
  · have hu := hu_of hr
    have kt : KTok K := rfl
    refine ⟨_, (pss_cons (ps_set (i := 1) sc__law_paper.nd rfl (Or.inl rfl) (pe_callF O__law_take (hr.mono (by first | decide | omega)) (by rfl) pass0 (pa_cons (pv 0) (pa_cons pe_int pa_nil))))
      (pss_cons (ps_set (i := 2) sc__law_paper.nd rfl (Or.inl rfl) (pe_ix ix_list (pe_lst (pa_cons pe_str (pa_cons pe_str (pa_cons pe_str (pa_cons pe_str (pa_cons pe_str (pa_cons pe_str (pa_cons pe_str (pa_cons pe_str (pa_cons pe_str (pa_cons pe_str (pa_cons pe_str pa_nil)))))))))))) (pv 1) (fun _ _ => rfl)))
      (pss_cons (ps_if (pt_cmpR op_lt (pv 1) pe_int (nomark _)) (pss_one (ps_ret (pe_tup (pa_cons (pv 2) (pa_cons (pe_callF O__law_numbers (hr.mono (by first | decide | omega)) (by rfl) pass0 (pa_cons (pv 0) (pa_cons (pe_ix ix_list (pe_lst (pa_cons pe_int (pa_cons pe_int pa_nil))) (pe_callF O__law_take (hr.mono (by first | decide | omega)) (by rfl) pass0 (pa_cons (pv 0) (pa_cons pe_int pa_nil))) (fun _ _ => rfl)) pa_nil))) pa_nil))))) pss_nil)
      (pss_cons (ps_if (pt_cmpR op_lt (pv 1) pe_int (nomark _)) (pss_one (ps_ret (pe_tup (pa_cons (pv 2) (pa_cons (pe_lc (own := [("_law_k", 3)]) (g := (gName 3)) (tt := tYes) (by rfl) sc__law_paper.nd (pi_range1 (by rfl) T.m_range (pa_cons (pe_callF O__law_take (hr.mono (by first | decide | omega)) (by rfl) pass0 (pa_cons (pv 0) (pa_cons pe_int pa_nil))) pa_nil)) (blkOk_by (own := [("_law_k", 3)]) (N := ["_law_pile_here", "_law_way", "_law_word", "_law_k"]) (sc := defScope s__law_paper) (by decide +kernel)) (fun _ _ _ _ _ => (pg_name (i := 3) sc__law_paper.nd rfl (Or.inl rfl))) (fun _ _ _ _ _ => pts_nil) (fun _ _ _ _ _ => (pe_callF O__law_numbers (hr.mono (by first | decide | omega)) (by rfl) pass0 (pa_cons (pv 0) (pa_cons pe_int pa_nil))))) pa_nil))))) pss_nil)
      (pss_cons (ps_if (pt_cmpR op_eq (pv 1) pe_int (nomark _)) (pss_one (ps_ret (pe_tup (pa_cons (pv 2) (pa_cons (pe_lc (own := [("_law_k", 3)]) (g := (gName 3)) (tt := tYes) (by rfl) sc__law_paper.nd (pi_range1 (by rfl) T.m_range (pa_cons (pe_callF O__law_take (hr.mono (by first | decide | omega)) (by rfl) pass0 (pa_cons (pv 0) (pa_cons pe_int pa_nil))) pa_nil)) (blkOk_by (own := [("_law_k", 3)]) (N := ["_law_pile_here", "_law_way", "_law_word", "_law_k"]) (sc := defScope s__law_paper) (by decide +kernel)) (fun _ _ _ _ _ => (pg_name (i := 3) sc__law_paper.nd rfl (Or.inl rfl))) (fun _ _ _ _ _ => pts_nil) (fun _ _ _ _ _ => (pe_callF O__law_pair (hr.mono (by first | decide | omega)) (by rfl) pass0 (pa_cons (pv 0) (pa_cons pe_int pa_nil))))) pa_nil))))) pss_nil)
      (pss_one (ps_ret (pe_tup (pa_cons (pv 2) (pa_cons (pe_tup (pa_cons (pe_callF O__law_great (hr.mono (by first | decide | omega)) (by rfl) pass0 (pa_cons (pv 0) pa_nil)) (pa_cons (pe_lc (own := [("_law_k", 3)]) (g := (gName 3)) (tt := tYes) (by rfl) sc__law_paper.nd (pi_range1 (by rfl) T.m_range (pa_cons (pe_callF O__law_take (hr.mono (by first | decide | omega)) (by rfl) pass0 (pa_cons (pv 0) (pa_cons pe_int pa_nil))) pa_nil)) (blkOk_by (own := [("_law_k", 3)]) (N := ["_law_pile_here", "_law_way", "_law_word", "_law_k"]) (sc := defScope s__law_paper) (by decide +kernel)) (fun _ _ _ _ _ => (pg_name (i := 3) sc__law_paper.nd rfl (Or.inl rfl))) (fun _ _ _ _ _ => pts_nil) (fun _ _ _ _ _ => (pe_callF O__law_step (hr.mono (by first | decide | omega)) (by rfl) pass0 (pa_cons (pv 0) pa_nil)))) pa_nil))) pa_nil)))))))))), ?_⟩
    obtain ⟨pl, rfl, hP, q⟩ := h
    try dsimp only [cxOf, Cx.nox, Cx.wish]
    refine start_as (σ := [some _, none, none, none]) rfl ?_
    have hM : Dom [pl] H := Dom.nil.cons hP.some
    walk_at "go"
    refine ⟨pl, 11, rfl, by omega, by omega, hP, fun H1 r1 e1 hP1 r10 r11 => ?_⟩
    have hM1 := hM.but e1 hP1.some
    walk_at "go"
    rename_i p2 H2 e2 hM2 l2
    have hP2 := hP1.ext e2
    obtain ⟨w, hat, hw⟩ : ∃ w : Str, atI ([.str "side", .str "lot", .str "setting", .str "ways", .str "trees", .str "woods", .str "parting", .str "lots", .str "ties", .str "row", .str "row"] : List PyData) r1 = some (.str w) ∧
        (r1 < 3 → w ∈ (["side", "lot", "setting"] : List Str)) ∧ (¬ r1 < 3 → r1 < 8 → w ∈ (["ways", "trees", "woods", "parting", "lots"] : List Str)) ∧ (r1 = 8 → w = "ties") ∧ (8 < r1 → w = "row") := by
      have hc : r1 = 0 ∨ r1 = 1 ∨ r1 = 2 ∨ r1 = 3 ∨ r1 = 4 ∨ r1 = 5 ∨ r1 = 6 ∨ r1 = 7 ∨ r1 = 8 ∨ r1 = 9 ∨ r1 = 10 := by omega
      rcases hc with rfl | rfl | rfl | rfl | rfl | rfl | rfl | rfl | rfl | rfl | rfl
      all_goals
        refine ⟨_, rfl, fun h => ?_, fun h h' => ?_, fun h => ?_, fun h => ?_⟩
        all_goals first | omega | decide +kernel
    refine w_ixStr l2 hat ?_
    have e02 : But pl H H2 := e1.trans e2.but
    walk_at "go"
    have fin : ∀ v H3 t L, But pl H2 H3 → PileAt H3 pl → Tr H3 v (dThing t) L → Fresh H2 L → okPaper w t → newT [.str w, v] H3 Q := fun v H3 t L e3 hP3 t3 f3 ok =>
      w_newTt (L := L) (.cons (L := []) (.str w) (trAll_one t3) fun _ z => nomatch z) (by exact Nat.le_of_ble_eq_true rfl) fun p5 H5 e5 hp5 _ t5 => q _ H5 w t L (e02.trans (e3.trans e5.but)) (hP3.ext e5) t5 (f3.backB e02 hP2.some) ok
    refine w_ite (fun c1 => ?_) (fun c1 => ?_)
    · walk_at "go"
      rename_i p3 H3 e3 hM3 l3
      have hP3 := hP2.ext e3
      refine ⟨pl, 2, rfl, by omega, by omega, hP3, fun H4 r4 e4 hP4 r40 r41 => ?_⟩
      have hM4 := hM3.but e4 hP4.some
      refine w_ixI [3, 41] (dpb e4 List.mem_cons_self l3) r40 r41 fun mu hmu => ?_
      have hmu : 0 ≤ mu ∧ mu ≤ 41 := by
        rcases List.mem_cons.mp hmu with rfl | h
        · omega
        · rw [List.mem_singleton.mp h]; omega
      walk_at "go"
      refine ⟨pl, mu, rfl, by omega, by omega, hP4, fun v H5 ns L e5 hP5 t5 f5 hl hn => ?_⟩
      walk_at "go0"
      have e24 : But pl H2 H4 := e3.but.trans e4
      exact fin v H5 (.nums ns) L (e24.trans e5) hP5 t5 (f5.backB e24 hP4.some) (.of (hw.1 c1) ⟨by omega, hn⟩ trivial)
    · walk_at "go"
      refine w_ite (fun c2 => ?_) (fun c2 => ?_)
      · walk_at "go"
        refine ⟨pl, 7, rfl, by omega, by omega, hP2, fun H4 r4 e4 hP4 r40 r41 => ?_⟩
        walk_at "go"
        refine i_rng1D (by omega) (by omega) ?_
        refine lt_X pl (fun d => ∃ ns : List Nat, d = .list (dNums ns) ∧ (ns.length ≤ 5 ∧ ∀ n ∈ ns, n < 10 ^ 40)) (by omega) hP4 (fun D i H5 hi e5 hD hP5 Ky k1 => ?_) (fun D H5 L ds hl hok e5 hP5 hD t5 f5 => ?_)
        · walk_at "go"
          refine ⟨rfl, ?_⟩
          walk_at "go"
          exact ⟨pl, 5, rfl, by omega, by omega, hP5, fun v H6 ns L e6 hP6 t6 f6 hl hn => k1 _ _ L _ ⟨ns, rfl, by omega, hn⟩ e6 hP6 t6 f6⟩
        · obtain ⟨ls, rfl, hls⟩ := all_of (fun ns => .list (dNums ns)) (fun ns : List Nat => ns.length ≤ 5 ∧ ∀ n ∈ ns, n < 10 ^ 40) hok
          rw [List.length_map] at hl
          walk_at "go0"
          refine fin _ H5 (.lists ls) L (e4.trans e5) hP5 t5 (f5.backB e4 hP4.some) (.of (hw.2.1 c1 c2) ⟨by omega, fun ns m => ⟨by have := (hls ns m).1; omega, (hls ns m).2⟩⟩ fun ns m => (hls ns m).1)
      · walk_at "go"
        refine w_ite (fun c3 => ?_) (fun c3 => ?_)
        · walk_at "go"
          refine ⟨pl, 12, rfl, by omega, by omega, hP2, fun H4 r4 e4 hP4 r40 r41 => ?_⟩
          walk_at "go"
          refine i_rng1D (by omega) (by omega) ?_
          refine lt_X pl (fun d => ∃ t : Nat × Nat, d = dTie t ∧ okT t) (by omega) hP4 (fun D i H5 hi e5 hD hP5 Ky k1 => ?_) (fun D H5 L ds hl hok e5 hP5 hD t5 f5 => ?_)
          · walk_at "go"
            refine ⟨rfl, ?_⟩
            walk_at "go"
            exact ⟨pl, 1, rfl, .inr rfl, hP5, fun p6 H6 x y e6 hP6 hp6 h6 _ xy yb => k1 _ _ [] _ ⟨(x, y), rfl, xy rfl, yb⟩ e6 hP6 (tr_pair h6) .nil⟩
          · obtain ⟨ts, rfl, hts⟩ := all_of dTie okT hok
            rw [List.length_map] at hl
            walk_at "go0"
            refine fin _ H5 (.ties ts) L (e4.trans e5) hP5 t5 (f5.backB e4 hP4.some) (.of (hw.2.2.1 c3) ⟨by omega, hts⟩ trivial)
        · walk_at "go"
          refine ⟨pl, rfl, hP2, fun H3 a e3 hP3 ha => ?_⟩
          walk_at "go"
          refine ⟨pl, 7, rfl, by omega, by omega, hP3, fun H4 r4 e4 hP4 r40 r41 => ?_⟩
          walk_at "go"
          refine i_rng1D (by omega) (by omega) ?_
          have e24 : But pl H2 H4 := e3.trans e4
          refine lt_X pl (fun d => ∃ s : Stp, d = dStp s ∧ okStp s) (by omega) hP4 (fun D i H5 hi e5 hD hP5 Ky k1 => ?_) (fun D H5 L ds hl hok e5 hP5 hD t5 f5 => ?_)
          · walk_at "go"
            refine ⟨rfl, ?_⟩
            walk_at "go"
            exact ⟨pl, rfl, hP5, fun v H6 s L e6 hP6 t6 f6 ok => k1 _ _ L _ ⟨s, rfl, ok⟩ e6 hP6 t6 f6⟩
          · obtain ⟨ss, rfl, hss⟩ := all_of dStp okStp hok
            rw [List.length_map] at hl
            walk_at "go0"
            refine w_newTt (L := L) (.cons (L := []) (.int a) (trAll_one t5) fun _ z => nomatch z) (by exact Nat.le_of_ble_eq_true rfl) fun p6 H6 e6 hp6 _ t6 => ?_
            walk_at "go0"
            refine fin _ H6 (.row a ss) L (e24.trans (e5.trans e6.but)) (hP5.ext e6) t6 (f5.backB e24 hP4.some) (.of (hw.2.2.2 (by omega)) ⟨by omega, by omega, hss⟩ (.inl (by omega)))
def sp_show_numbers (K : PySem.W.Frag) : Sp := fun vs H Q _ => ∃ (x : V) (ns : List Nat) (M : List Addr), vs = [x] ∧ Dp K (vis M H) x (.list (dNums ns)) ∧ okNs ns ∧ Dom M H ∧ ∀ H', Ext H H' → Dom M H' → Q (.str (numsT ns)) H'
theorem ok_show_numbers {P : Program} {w : World} {K : PySem.W.Frag} {mg : Str → Option Value} {base : Heap} (T : Txt K mg) : OkF P w K mg base CX0 1 "show_numbers" ["numbers"] (sp_show_numbers K) := by
  refine okF0 T.f_show_numbers sc_show_numbers (fun vs H Q E h => ?_) (fun _ _ _ _ _ _ us hl => match us, hl with | [_], _ => rfl) (fun cdv A outer s H vs Q E hr h => ?_)
  · obtain ⟨x, ns, M, rfl, hd, ⟨hl, hn⟩, hM, q⟩ := h
    rfl
  · have hu := hu_of hr
    have kt : KTok K := rfl
    refine ⟨_, (pss_cons (ps_if (pt_cmpR op_eq (pe_callB cn_len (by rfl) T.m_len (by decide +kernel) (pa_cons (pv 0) pa_nil)) pe_int (nomark _)) (pss_one (ps_ret pe_str)) pss_nil)
      (pss_one (ps_ret (pn_join pe_str (pe_lc (own := [("number", 1)]) (g := (gName 1)) (tt := tYes) (by rfl) sc_show_numbers.nd (pi_list (pv 0)) (blkOk_by (own := [("number", 1)]) (N := ["numbers", "number"]) (sc := defScope s_show_numbers) (by decide +kernel)) (fun _ _ _ _ _ => (pg_name (i := 1) sc_show_numbers.nd rfl (Or.inl rfl))) (fun _ _ _ _ _ => pts_nil) (fun _ _ _ _ _ => (pe_callTy (T := "str") (r := rStrI) cn_str (by rfl) T.m_str (by decide +kernel) (pa_cons (pv 1) pa_nil)))))))), ?_⟩
    obtain ⟨x, ns, M, rfl, hd, ⟨hl, hn⟩, hM, q⟩ := h
    try dsimp only [cxOf, Cx.nox, Cx.wish]
    refine start_as (σ := [some _, none]) rfl ?_
    walk_at "go"
    refine w_ite (fun c => ?_) (fun c => ?_)
    · walk_at "go"
      have e : ns = [] := List.eq_nil_of_length_eq_zero (by omega)
      subst e
      exact q H (Ext.refl _) hM
    · walk_at "go"
      have e : ns ≠ [] := fun z => c (by rw [z]; rfl)
      have e2 : numsT ns = Txt.join " " (ns.map nz) := if_neg e
      refine i_listD hd fun a xs ea hL hA => ?_
      refine lm_L (K := K) (M := M) ns (fun (n : Nat) => PyData.int (n : Int)) nz PyData.str (by omega) hM hL hA (fun D i n x2 H5 hi e5 dm hD hx Ky k1 => ?_) (fun D H5 e5 hM5 hD h5 => ?_)
      · cases dp_int hx
        walk_at "go"
        refine ⟨rfl, ?_⟩
        walk_at "go"
        exact w_strN (hn n (List.mem_of_getElem? hi)) (k1 _ _ (Ext.refl _) (.str _))
      · walk_at "go"
        refine w_join (ns.map nz) h5.dp ?_ ?_
        · have := nums_sumT hn
          rw [one_blank, List.length_map]; omega
        · rw [← e2]
          exact q H5 e5 hM5
def sp_show_lists (K : PySem.W.Frag) : Sp := fun vs H Q _ => ∃ (x : V) (ls : List (List Nat)) (M : List Addr), vs = [x] ∧ Dp K (vis M H) x (dThing (.lists ls)) ∧ okThing (.lists ls) ∧ Dom M H ∧ ∀ H', Ext H H' → Dom M H' → Q (.str (listsT ls)) H'
theorem ok_show_lists {P : Program} {w : World} {K : PySem.W.Frag} {mg : Str → Option Value} {base : Heap} (T : Txt K mg) (O_show_numbers : OkF P w K mg base CX0 1 "show_numbers" ["numbers"] (sp_show_numbers K)) : OkF P w K mg base CX0 2 "show_lists" ["lists"] (sp_show_lists K) := by
  refine okF0 T.f_show_lists sc_show_lists (fun vs H Q E h => ?_) (fun _ _ _ _ _ _ us hl => match us, hl with | [_], _ => rfl) (fun cdv A outer s H vs Q E hr h => ?_)
  · obtain ⟨x, ls, M, rfl, hd, ⟨hl, hn⟩, hM, q⟩ := h
    rfl
  · have hu := hu_of hr
    have kt : KTok K := rfl
    refine ⟨_, (pss_cons (ps_if (pt_cmpR op_eq (pe_callB cn_len (by rfl) T.m_len (by decide +kernel) (pa_cons (pv 0) pa_nil)) pe_int (nomark _)) (pss_one (ps_ret pe_str)) pss_nil)
      (pss_one (ps_ret (pn_join pe_str (pe_lc (own := [("numbers", 1)]) (g := (gName 1)) (tt := tYes) (by rfl) sc_show_lists.nd (pi_list (pv 0)) (blkOk_by (own := [("numbers", 1)]) (N := ["lists", "numbers"]) (sc := defScope s_show_lists) (by decide +kernel)) (fun _ _ _ _ _ => (pg_name (i := 1) sc_show_lists.nd rfl (Or.inl rfl))) (fun _ _ _ _ _ => pts_nil) (fun _ _ _ _ _ => (pe_callF O_show_numbers (hr.mono (by first | decide | omega)) (by rfl) pass0 (pa_cons (pv 1) pa_nil)))))))), ?_⟩
    obtain ⟨x, ls, M, rfl, hd, ⟨hl, hn⟩, hM, q⟩ := h
    try dsimp only [cxOf, Cx.nox, Cx.wish]
    refine start_as (σ := [some _, none]) rfl ?_
    have hd : Dp K (vis M H) x (.list (ls.map fun ns => .list (dNums ns))) := hd
    walk_at "go"
    refine w_ite (fun c => ?_) (fun c => ?_)
    · walk_at "go"
      have e : ls = [] := List.eq_nil_of_length_eq_zero (by omega)
      subst e
      exact q H (Ext.refl _) hM
    · walk_at "go"
      have e : ls ≠ [] := fun z => c (by rw [z]; rfl)
      have e2 : listsT ls = Txt.join ", " (ls.map numsT) := if_neg e
      refine i_listD hd fun a xs ea hL hA => ?_
      refine lm_L (K := K) (M := M) ls (fun ns => .list (dNums ns)) numsT PyData.str (by omega) hM hL hA (fun D i n x2 H5 hi e5 dm hD hx Ky k1 => ?_) (fun D H5 e5 hM5 hD h5 => ?_)
      · walk_at "go"
        refine ⟨rfl, ?_⟩
        walk_at "go"
        exact ⟨x2, n, D :: M, rfl, hx, hn n (List.mem_of_getElem? hi), dm, fun H6 e6 _ => k1 _ _ e6 (.str _)⟩
      · walk_at "go"
        refine w_join (ls.map numsT) h5.dp ?_ ?_
        · have := lists_sum hn
          rw [List.length_map, show (", " : Str).length = 2 by decide +kernel]; omega
        · rw [← e2]
          exact q H5 e5 hM5
def sp_number_in (K : PySem.W.Frag) : Sp := fun vs H Q _ => ∃ n : Nat, vs = [.str (nz n)] ∧ n < 10 ^ 40 ∧ ∀ H', Ext H H' → Q (.int n) H'
theorem ok_number_in {P : Program} {w : World} {K : PySem.W.Frag} {mg : Str → Option Value} {base : Heap} (T : Txt K mg) : OkF P w K mg base CX0 1 "number_in" ["word"] (sp_number_in K) := by
  refine okF0 T.f_number_in sc_number_in (fun vs H Q E h => ?_) (fun _ _ _ _ _ _ us hl => match us, hl with | [_], _ => rfl) (fun cdv A outer s H vs Q E hr h => ?_)
  · obtain ⟨n, rfl, hn, q⟩ := h
    rfl
  · have hu := hu_of hr
    have kt : KTok K := rfl
    refine ⟨_, (pss_cons (ps_if (PW.pt (pw_or (pt_cmpR op_eq (pv 0) pe_str (nomark _)) (pw_or (pt_cmpR op_gt (pe_callB cn_lenZ (by rfl) T.m_len (by decide +kernel) (pa_cons (pv 0) pa_nil)) pe_int (nomark _)) (pw_or1 (PW.pt (pw_and (pt_cmpR op_eq (pe_ix ix_str (pv 0) pe_int (fun _ _ => rfl)) pe_str (nomark _)) (pw_and1 (pt_cmpR op_ne (pv 0) pe_str (nomark _))))))))) (pss_one ps_never) pss_nil)
      (pss_cons (ps_if (pt_val (pe_callB (cr_any rfl) (by rfl) T.m_any (by decide +kernel) (pa_cons (pe_lc (own := [("sign", 1)]) (g := (gName 1)) (tt := tYes) (by rfl) sc_number_in.nd (pi_str (pv 0)) (blkOk_by (own := [("sign", 1)]) (N := ["word", "sign"]) (sc := defScope s_number_in) (by decide +kernel)) (fun _ _ _ _ _ => (pg_name (i := 1) sc_number_in.nd rfl (Or.inl rfl))) (fun _ _ _ _ _ => pts_nil) (fun _ _ _ _ _ => (pe_cmpR on_niSg (pv 1) (pe_gS rfl T.c_FIGURES) (by rfl)))) pa_nil))) (pss_one ps_never) pss_nil)
      (pss_one (ps_ret (pe_callTy cn_intZ (by rfl) T.m_int (by decide +kernel) (pa_cons (pv 0) pa_nil)))))), ?_⟩
    obtain ⟨n, rfl, hn, q⟩ := h
    try dsimp only [cxOf, Cx.nox, Cx.wish]
    refine start_as (σ := [some _, none]) rfl ?_
    have hM : Dom [] H := Dom.nil
    have hl := nz_le hn
    walk_at "go"
    refine w_no (nz_ne n) ?_
    walk_at "go"
    refine w_lenZ (by omega) ?_
    walk_at "go"
    refine w_no (by omega) ?_
    walk_at "go"
    obtain ⟨c, hc, hz⟩ := nz_first (n := n)
    refine w_ixS (by omega) hc ?_
    walk_at "go"
    refine w_ite (fun c1 => ?_) (fun _ => ?_)
    all_goals (try (walk_at "go"; refine w_noN (hz (one_sign c1)) ?_))
    all_goals
      walk_at "go"
      refine lm_S (K := K) (M := []) (fun c => !decide (c ∈ ("0123456789" : Str).cps.toList)) PyData.bool (by omega) hM (fun D i c H2 hc e dm hD Ky k1 => ?_) (fun D H' e dm hD hd => ?_)
      · walk_at "go"
        refine ⟨rfl, ?_⟩
        walk_at "go"
        exact k1 _ _ (Ext.refl _) (.bl _)
      · walk_at "go"
        refine rAny_ok _ hd.dp ?_
        rw [all_filterMap_false _ _ (fun c hc => by rw [nz_cps] at hc; rw [decide_eq_true (in_figs (numL_mem hc))]; rfl)]
        walk_at "go"
        refine w_intZ (nz_int hn) (by omega) ?_
        exact q _ e
def sp_pair_in (K : PySem.W.Frag) : Sp := fun vs H Q _ => ∃ (a b : Nat), vs = [.str (pz a b)] ∧ a < 10 ^ 40 ∧ b < 10 ^ 40 ∧ ∀ p H', Ext H H' → H p = none → H' p = some (.tup [.int a, .int b]) → Q (.ref p) H'
theorem ok_pair_in {P : Program} {w : World} {K : PySem.W.Frag} {mg : Str → Option Value} {base : Heap} (T : Txt K mg) (O_number_in : OkF P w K mg base CX0 1 "number_in" ["word"] (sp_number_in K)) : OkF P w K mg base CX0 2 "pair_in" ["word"] (sp_pair_in K) := by
  refine okF0 T.f_pair_in sc_pair_in (fun vs H Q E h => ?_) (fun _ _ _ _ _ _ us hl => match us, hl with | [_], _ => rfl) (fun cdv A outer s H vs Q E hr h => ?_)
  · obtain ⟨a, b, rfl, ha, hb, q⟩ := h
    rfl
  · have hu := hu_of hr
    have kt : KTok K := rfl
    refine ⟨_, (pss_cons (ps_set (i := 1) sc_pair_in.nd rfl (Or.inl rfl) (pn_split (pv 0) pe_str))
      (pss_cons (ps_if (pt_cmpR op_ne (pe_callB cn_len (by rfl) T.m_len (by decide +kernel) (pa_cons (pv 1) pa_nil)) pe_int (nomark _)) (pss_one ps_never) pss_nil)
      (pss_one (ps_ret (pe_tup (pa_cons (pe_callF O_number_in (hr.mono (by first | decide | omega)) (by rfl) pass0 (pa_cons (pe_ix ix_list (pv 1) pe_int (fun _ _ => rfl)) pa_nil)) (pa_cons (pe_callF O_number_in (hr.mono (by first | decide | omega)) (by rfl) pass0 (pa_cons (pe_ix ix_list (pv 1) pe_int (fun _ _ => rfl)) pa_nil)) pa_nil))))))), ?_⟩
    obtain ⟨a, b, rfl, ha, hb, q⟩ := h
    try dsimp only [cxOf, Cx.nox, Cx.wish]
    refine start_as (σ := [some _, none]) rfl ?_
    have hM : Dom [] H := Dom.nil
    have la := nz_le ha
    have lb := nz_le hb
    walk_at "go"
    refine w_split kt hM (by decide +kernel) (by rw [pz_len]; omega) fun p H1 e1 hM1 hd => ?_
    rw [split_pz] at hd
    walk_at "go"
    refine w_noN (by rfl) ?_
    walk_at "go"
    refine ⟨a, rfl, ha, fun H2 e2 => ?_⟩
    have hd2 := dpx e2 hd
    walk_at "go"
    refine ⟨b, rfl, hb, fun H3 e3 => ?_⟩
    walk_at "go0"
    refine w_newTR (by exact Nat.le_of_ble_eq_true rfl) fun p4 H4 hp4 e4 h4 => ?_
    exact q p4 H4 (by walk_at "ext") (fresh_back (by walk_at "ext") hp4) h4
def sp_show_pair (K : PySem.W.Frag) : Sp := fun vs H Q _ => ∃ (x : V) (a b : Nat) (M : List Addr), vs = [x] ∧ Dp K (vis M H) x (.tuple [.int a, .int b]) ∧ a < 10 ^ 40 ∧ b < 10 ^ 40 ∧ Q (.str (pz a b)) H
theorem ok_show_pair {P : Program} {w : World} {K : PySem.W.Frag} {mg : Str → Option Value} {base : Heap} (T : Txt K mg) : OkF P w K mg base CX0 1 "show_pair" ["pair"] (sp_show_pair K) := by
  refine okF0 T.f_show_pair sc_show_pair (fun vs H Q E h => ?_) (fun _ _ _ _ _ _ us hl => match us, hl with | [_], _ => rfl) (fun cdv A outer s H vs Q E hr h => ?_)
  · obtain ⟨x, a, b, M, rfl, hd, ha, hb, q⟩ := h
    rfl
  · have hu := hu_of hr
    have kt : KTok K := rfl
    refine ⟨_, (pss_one (ps_ret (pe_joined (.cons (pe_fmt (pe_ix ix_tup (pv 0) pe_int (fun _ _ => rfl))) (.cons pe_str (.cons (pe_fmt (pe_ix ix_tup (pv 0) pe_int (fun _ _ => rfl))) .nil)))))), ?_⟩
    obtain ⟨x, a, b, M, rfl, hd, ha, hb, q⟩ := h
    try dsimp only [cxOf, Cx.nox, Cx.wish]
    refine start_as (σ := [some _]) rfl ?_
    have la := nz_le ha
    have lb := nz_le hb
    have l1 := one_dash
    walk_at "go"
    refine w_fmtN ha ?_
    refine w_jsS (by rw [len_empty]; omega) ?_
    rw [empty_app]
    walk_at "go"
    refine w_jsS (by omega) ?_
    walk_at "go"
    refine w_fmtN hb ?_
    refine w_jsS (by rw [len_app]; omega) ?_
    walk_at "go"
    exact q
def sp_show_ties (K : PySem.W.Frag) : Sp := fun vs H Q _ => ∃ (x : V) (ts : List (Nat × Nat)) (M : List Addr), vs = [x] ∧ Dp K (vis M H) x (dThing (.ties ts)) ∧ okThing (.ties ts) ∧ Dom M H ∧ ∀ H', Ext H H' → Dom M H' → Q (.str (tiesT ts)) H'
theorem ok_show_ties {P : Program} {w : World} {K : PySem.W.Frag} {mg : Str → Option Value} {base : Heap} (T : Txt K mg) (O_show_pair : OkF P w K mg base CX0 1 "show_pair" ["pair"] (sp_show_pair K)) : OkF P w K mg base CX0 2 "show_ties" ["ties"] (sp_show_ties K) := by
  refine okF0 T.f_show_ties sc_show_ties (fun vs H Q E h => ?_) (fun _ _ _ _ _ _ us hl => match us, hl with | [_], _ => rfl) (fun cdv A outer s H vs Q E hr h => ?_)
  · obtain ⟨x, ts, M, rfl, hd, ⟨hl, hn⟩, hM, q⟩ := h
    rfl
  · have hu := hu_of hr
    have kt : KTok K := rfl
    refine ⟨_, (pss_cons (ps_if (pt_cmpR op_eq (pe_callB cn_len (by rfl) T.m_len (by decide +kernel) (pa_cons (pv 0) pa_nil)) pe_int (nomark _)) (pss_one (ps_ret pe_str)) pss_nil)
      (pss_one (ps_ret (pn_join pe_str (pe_lc (own := [("tie", 1)]) (g := (gName 1)) (tt := tYes) (by rfl) sc_show_ties.nd (pi_list (pv 0)) (blkOk_by (own := [("tie", 1)]) (N := ["ties", "tie"]) (sc := defScope s_show_ties) (by decide +kernel)) (fun _ _ _ _ _ => (pg_name (i := 1) sc_show_ties.nd rfl (Or.inl rfl))) (fun _ _ _ _ _ => pts_nil) (fun _ _ _ _ _ => (pe_callF O_show_pair (hr.mono (by first | decide | omega)) (by rfl) pass0 (pa_cons (pv 1) pa_nil)))))))), ?_⟩
    obtain ⟨x, ts, M, rfl, hd, ⟨hl, hn⟩, hM, q⟩ := h
    try dsimp only [cxOf, Cx.nox, Cx.wish]
    refine start_as (σ := [some _, none]) rfl ?_
    have hd : Dp K (vis M H) x (.list (ts.map dTie)) := hd
    walk_at "go"
    refine w_ite (fun c => ?_) (fun c => ?_)
    · walk_at "go"
      have e : ts = [] := List.eq_nil_of_length_eq_zero (by omega)
      subst e
      exact q H (Ext.refl _) hM
    · walk_at "go"
      have e : ts ≠ [] := fun z => c (by rw [z]; rfl)
      have e2 : tiesT ts = Txt.join " " (pzs ts) := if_neg e
      refine i_listD hd fun a xs ea hL hA => ?_
      refine lm_L (K := K) (M := M) ts dTie (fun t => pz t.1 t.2) PyData.str (by omega) hM hL hA (fun D i t x2 H5 hi e5 dm hD hx Ky k1 => ?_) (fun D H5 e5 hM5 hD h5 => ?_)
      · have ot := hn t (List.mem_of_getElem? hi)
        walk_at "go"
        refine ⟨rfl, ?_⟩
        walk_at "go"
        exact ⟨x2, t.1, t.2, D :: M, rfl, hx, by have := ot.1; have := ot.2; omega, ot.2, k1 _ _ (Ext.refl _) (.str _)⟩
      · walk_at "go"
        refine w_join (pzs ts) h5.dp ?_ ?_
        · have := pzs_sumT (okT_pair hn)
          rw [pzs_len, one_blank]; omega
        · rw [← e2]
          exact q H5 e5 hM5
def sp_show_step (K : PySem.W.Frag) : Sp := fun vs H Q _ => ∃ (x : V) (s : Stp) (M : List Addr), vs = [x] ∧ Dp K (vis M H) x (dStp s) ∧ okStp s ∧ Dom M H ∧ ∀ H', Ext H H' → Dom M H' → Q (.str (stepT s)) H'
theorem ok_show_step {P : Program} {w : World} {K : PySem.W.Frag} {mg : Str → Option Value} {base : Heap} (T : Txt K mg) (O_show_pair : OkF P w K mg base CX0 1 "show_pair" ["pair"] (sp_show_pair K)) : OkF P w K mg base CX0 2 "show_step" ["step"] (sp_show_step K) := by
  refine okF0 T.f_show_step sc_show_step (fun vs H Q E h => ?_) (fun _ _ _ _ _ _ us hl => match us, hl with | [_], _ => rfl) (fun cdv A outer s H vs Q E hr h => ?_)
  · obtain ⟨x, s, M, rfl, hd, ok, hM, q⟩ := h
    rfl
  · have hu := hu_of hr
    have kt : KTok K := rfl
    refine ⟨_, (pss_cons (ps_if (pt_cmpR op_eq (pe_ix ix_tup (pv 0) pe_int (fun _ _ => rfl)) pe_str (nomark _)) (pss_one (ps_ret (pe_op on_addZ pe_str (pe_callF O_show_pair (hr.mono (by first | decide | omega)) (by rfl) pass0 (pa_cons (pe_slice sl_tupA (pv 0) (po_some pe_int) po_none) pa_nil))))) pss_nil)
      (pss_one (ps_ret (pn_join pe_str (pe_op op_cat (pe_lst (pa_cons pe_str (pa_cons (pe_callTy cn_str (by rfl) T.m_str (by decide +kernel) (pa_cons (pe_ix ix_tup (pv 0) pe_int (fun _ _ => rfl)) pa_nil)) pa_nil))) (pe_lc (own := [("pair", 1)]) (g := (gName 1)) (tt := tYes) (by rfl) sc_show_step.nd (pi_list (pe_ix ix_tup (pv 0) pe_int (fun _ _ => rfl))) (blkOk_by (own := [("pair", 1)]) (N := ["step", "pair"]) (sc := defScope s_show_step) (by decide +kernel)) (fun _ _ _ _ _ => (pg_name (i := 1) sc_show_step.nd rfl (Or.inl rfl))) (fun _ _ _ _ _ => pts_nil) (fun _ _ _ _ _ => (pe_callF O_show_pair (hr.mono (by first | decide | omega)) (by rfl) pass0 (pa_cons (pv 1) pa_nil))))))))), ?_⟩
    obtain ⟨x, s, M, rfl, hd, ok, hM, q⟩ := h
    try dsimp only [cxOf, Cx.nox, Cx.wish]
    refine start_as (σ := [some _, none]) rfl ?_
    cases s with
    | tie a b =>
      have hd : Dp K (vis M H) x (.tuple [.str "tie", .int a, .int b]) := hd
      obtain ⟨h1, h2⟩ := ok
      walk_at "go"
      refine w_yes rfl ?_
      walk_at "go"
      refine w_slT hM hd fun p1 H1 e1 hM1 d1 => ?_
      have d1 : Dp K (vis M H1) (.ref p1) (.tuple [.int a, .int b]) := d1
      refine ⟨.ref p1, a, b, M, rfl, d1, by omega, h2, ?_⟩
      have : (pz a b).length ≤ 81 := pz_le (by omega) h2
      refine w_addZ (by rw [show ("tie " : Str).length = 4 by decide +kernel]; omega) ?_
      exact q H1 e1 hM1
    | place p ps =>
      have hd : Dp K (vis M H) x (.tuple [.str "place", .int p, .list (ps.map dTie)]) := hd
      obtain ⟨hp, hl, hn⟩ := ok
      walk_at "go"
      refine w_no (by decide +kernel) ?_
      walk_at "go0"
      refine w_strN hp ?_
      walk_at "go0"
      refine w_newLst kt hM (.cons (.str "place") (.cons (.str (nz p)) .nil)) (by exact Nat.le_of_ble_eq_true rfl) fun p1 H1 e1 hM1 h1 => ?_
      walk_at "go"
      refine w_ixT (dpx e1 hd) rfl fun v hv => ?_
      walk_at "go"
      refine i_listD hv fun a xs ea hL hA => ?_
      refine lm_L (K := K) (M := M) ps dTie (fun t => pz t.1 t.2) PyData.str (by omega) hM1 hL hA (fun D i t x2 H5 hi e5 dm hD hx Ky k1 => ?_) (fun D H5 e5 hM5 hD h5 => ?_)
      · have ot := hn t (List.mem_of_getElem? hi)
        walk_at "go"
        refine ⟨rfl, ?_⟩
        walk_at "go"
        exact ⟨x2, t.1, t.2, D :: M, rfl, hx, by have := ot.1; have := ot.2; omega, ot.2, k1 _ _ (Ext.refl _) (.str _)⟩
      · refine w_catD hM5 (h1.ext e5) h5 (by simp; omega) fun p2 H6 e6 hM6 h6 => ?_
        refine w_join (("place" : Str) :: nz p :: pzs ps) h6.dp ?_ (q _ (e1.trans (e5.trans e6)) hM6)
        have := pzs_sumT hn
        have := nz_le hp
        rw [one_blank, List.map_cons, List.map_cons, List.sum_cons, List.sum_cons, List.length_cons, List.length_cons, pzs_len, show ("place" : Str).length = 5 by decide +kernel]
        omega
def sp_show_row (K : PySem.W.Frag) : Sp := fun vs H Q _ => ∃ (x : V) (f : Nat) (ss : List Stp) (M : List Addr), vs = [x] ∧ Dp K (vis M H) x (dThing (.row f ss)) ∧ okThing (.row f ss) ∧ Dom M H ∧ ∀ H', Ext H H' → Dom M H' → Q (.str (rowT f ss)) H'
theorem ok_show_row {P : Program} {w : World} {K : PySem.W.Frag} {mg : Str → Option Value} {base : Heap} (T : Txt K mg) (O_show_step : OkF P w K mg base CX0 2 "show_step" ["step"] (sp_show_step K)) : OkF P w K mg base CX0 3 "show_row" ["row"] (sp_show_row K) := by
  refine okF0 T.f_show_row sc_show_row (fun vs H Q E h => ?_) (fun _ _ _ _ _ _ us hl => match us, hl with | [_], _ => rfl) (fun cdv A outer s H vs Q E hr h => ?_)
  · obtain ⟨x, f, ss, M, rfl, hd, ⟨hf, hl, hn⟩, hM, q⟩ := h
    rfl
  · have hu := hu_of hr
    have kt : KTok K := rfl
    refine ⟨_, (pss_cons (ps_asg (pv 0) (pg_tup rfl (pgs_cons (pg_name (i := 1) sc_show_row.nd rfl (Or.inl rfl)) (pgs_cons (pg_name (i := 2) sc_show_row.nd rfl (Or.inl rfl)) pgs_nil))))
      (pss_one (ps_ret (pn_join pe_str (pe_op op_cat (pe_lst (pa_cons (pe_callTy cn_str (by rfl) T.m_str (by decide +kernel) (pa_cons (pv 1) pa_nil)) pa_nil)) (pe_lc (own := [("step", 3)]) (g := (gName 3)) (tt := tYes) (by rfl) sc_show_row.nd (pi_list (pv 2)) (blkOk_by (own := [("step", 3)]) (N := ["row", "first", "steps", "step"]) (sc := defScope s_show_row) (by decide +kernel)) (fun _ _ _ _ _ => (pg_name (i := 3) sc_show_row.nd rfl (Or.inl rfl))) (fun _ _ _ _ _ => pts_nil) (fun _ _ _ _ _ => (pe_callF O_show_step (hr.mono (by first | decide | omega)) (by rfl) pass0 (pa_cons (pv 3) pa_nil))))))))), ?_⟩
    obtain ⟨x, f, ss, M, rfl, hd, ⟨hf, hl, hn⟩, hM, q⟩ := h
    try dsimp only [cxOf, Cx.nox, Cx.wish]
    refine start_as (σ := [some _, none, none, none]) rfl ?_
    have hd : Dp K (vis M H) x (.tuple [.int f, .list (ss.map dStp)]) := hd
    walk_at "go"
    refine g_tup2 hd fun v1 v2 d1 d2 => ?_
    cases dp_int d1
    walk_at "go0"
    refine w_strN hf ?_
    walk_at "go0"
    refine w_newLst kt hM (.cons (.str (nz f)) .nil) (by exact Nat.le_of_ble_eq_true rfl) fun p1 H1 e1 hM1 h1 => ?_
    walk_at "go"
    refine i_listD (dpx e1 d2) fun a xs ea hL hA => ?_
    refine lm_L (K := K) (M := M) ss dStp stepT PyData.str (by omega) hM1 hL hA (fun D i s x2 H5 hi e5 dm hD hx Ky k1 => ?_) (fun D H5 e5 hM5 hD h5 => ?_)
    · walk_at "go"
      refine ⟨rfl, ?_⟩
      walk_at "go"
      exact ⟨x2, s, D :: M, rfl, hx, hn s (List.mem_of_getElem? hi), dm, fun H6 e6 _ => k1 _ _ e6 (.str _)⟩
    · refine w_catD hM5 (h1.ext e5) h5 (by simp; omega) fun p2 H6 e6 hM6 h6 => ?_
      refine w_join (nz f :: ss.map stepT) h6.dp ?_ (q _ (e1.trans (e5.trans e6)) hM6)
      have := steps_sum hn
      have := nz_le hf
      rw [List.map_cons, List.sum_cons, List.length_cons, List.length_map, show ("; " : Str).length = 2 by decide +kernel]
      omega
def sp_show_paper (K : PySem.W.Frag) : Sp := fun vs H Q _ => ∃ (x : V) (w : Str) (t : Thing) (M : List Addr), vs = [x] ∧ Dp K (vis M H) x (dPaper w t) ∧ okPaper w t ∧ Dom M H ∧ ∀ H', Ext H H' → Dom M H' → Q (.str (paperT w t)) H'
theorem word_in {w : Str} {A B : List Str} (h : w ∈ A) (d : ∀ x ∈ A, x ∉ B) : w ∉ B := d w h
theorem word_len {w : Str} {t : Thing} (h : okWord w t) : w.length ≤ 8 ∧ 32 ∉ TL.tl w := by
  have key : ∀ A : List Str, (∀ x ∈ A, x.length ≤ 8 ∧ 32 ∉ TL.tl x) → w ∈ A → w.length ≤ 8 ∧ 32 ∉ TL.tl w := fun A k m => k w m
  cases t with
  | nums _ => exact key _ (by decide +kernel) h
  | lists _ => exact key _ (by decide +kernel) h
  | ties _ => exact key ["ties"] (by decide +kernel) (List.mem_singleton.mpr h)
  | row _ _ => exact key ["row"] (by decide +kernel) (List.mem_singleton.mpr h)
theorem numb_dp {K : PySem.W.Frag} {M : List Addr} {H : Hp} (u : He.tupB K "NUMBERS" [.str "side", .str "lot", .str "setting"] = true) : Dp K (vis M H) (.ref (He.ga K "NUMBERS")) (.tuple ((["side", "lot", "setting"] : List Str).map PyData.str)) := .tup (He.tupB_ok u _) (dpAll_strs ["side", "lot", "setting"])
theorem list_dp {K : PySem.W.Frag} {M : List Addr} {H : Hp} (u : He.tupB K "LISTS" [.str "ways", .str "trees", .str "woods", .str "parting", .str "lots"] = true) : Dp K (vis M H) (.ref (He.ga K "LISTS")) (.tuple ((["ways", "trees", "woods", "parting", "lots"] : List Str).map PyData.str)) := .tup (He.tupB_ok u _) (dpAll_strs ["ways", "trees", "woods", "parting", "lots"])
theorem ok_show_paper {P : Program} {w : World} {K : PySem.W.Frag} {mg : Str → Option Value} {base : Heap} (T : Txt K mg) (O_show_numbers : OkF P w K mg base CX0 1 "show_numbers" ["numbers"] (sp_show_numbers K)) (O_show_lists : OkF P w K mg base CX0 2 "show_lists" ["lists"] (sp_show_lists K)) (O_show_ties : OkF P w K mg base CX0 2 "show_ties" ["ties"] (sp_show_ties K)) (O_show_row : OkF P w K mg base CX0 3 "show_row" ["row"] (sp_show_row K)) : OkF P w K mg base CX0 4 "show_paper" ["paper"] (sp_show_paper K) := by
  refine okF0 T.f_show_paper sc_show_paper (fun vs H Q E h => ?_) (fun _ _ _ _ _ _ us hl => match us, hl with | [_], _ => rfl) (fun cdv A outer s H vs Q E hr h => ?_)
  · obtain ⟨x, w, t, M, rfl, hd, ok, hM, q⟩ := h
    rfl
  · have hu := hu_of hr
    have kt : KTok K := rfl
    refine ⟨_, (pss_cons (ps_asg (pv 0) (pg_tup rfl (pgs_cons (pg_name (i := 1) sc_show_paper.nd rfl (Or.inl rfl)) (pgs_cons (pg_name (i := 2) sc_show_paper.nd rfl (Or.inl rfl)) pgs_nil))))
      (pss_cons (ps_if (pt_cmpR op_in_seq (pv 1) (pe_gC rfl T.c_NUMBERS) (by rfl)) (pss_one (ps_ret (pe_op on_addZ (pe_op on_addZ (pv 1) pe_str) (pe_callF O_show_numbers (hr.mono (by first | decide | omega)) (by rfl) pass0 (pa_cons (pv 2) pa_nil))))) pss_nil)
      (pss_cons (ps_if (pt_cmpR op_in_seq (pv 1) (pe_gC rfl T.c_LISTS) (by rfl)) (pss_one (ps_ret (pe_op on_addZ (pe_op on_addZ (pv 1) pe_str) (pe_callF O_show_lists (hr.mono (by first | decide | omega)) (by rfl) pass0 (pa_cons (pv 2) pa_nil))))) pss_nil)
      (pss_cons (ps_if (pt_cmpR op_eq (pv 1) pe_str (nomark _)) (pss_one (ps_ret (pe_op on_addZ (pe_op on_addZ (pv 1) pe_str) (pe_callF O_show_ties (hr.mono (by first | decide | omega)) (by rfl) pass0 (pa_cons (pv 2) pa_nil))))) pss_nil)
      (pss_one (ps_ret (pe_op on_addZ (pe_op on_addZ (pv 1) pe_str) (pe_callF O_show_row (hr.mono (by first | decide | omega)) (by rfl) pass0 (pa_cons (pv 2) pa_nil))))))))), ?_⟩
    obtain ⟨x, w, t, M, rfl, hd, ok, hM, q⟩ := h
    try dsimp only [cxOf, Cx.nox, Cx.wish]
    refine start_as (σ := [some _, none, none]) rfl ?_
    have hd : Dp K (vis M H) x (.tuple [.str w, dThing t]) := hd
    obtain ⟨lw, _⟩ := word_len ok.word
    have lt := ok.len
    have hq : ∀ H', Ext H H' → Dom M H' → Q (.str (w ++ " " ++ thingT t)) H' := q
    walk_at "go"
    refine g_tup2 hd fun v1 v2 d1 d2 => ?_
    cases dp_str d1
    walk_at "go"
    refine w_inS ["side", "lot", "setting"] (.inr (numb_dp (M := []) T.u_NUMBERS)) ?_
    walk_at "go"
    cases t with
    | nums ns =>
      refine w_yes ok.word ?_
      walk_at "go"
      refine w_addZ (by rw [one_blank]; omega) ?_
      walk_at "go"
      refine ⟨v2, ns, M, rfl, d2, ok.thing, hM, fun H1 e1 hM1 => ?_⟩
      refine w_addZ (by rw [len_app, one_blank]; have : (numsT ns).length ≤ 90000 := lt; omega) ?_
      exact hq H1 e1 hM1
    | lists ls =>
      refine w_no (word_in ok.word (by decide +kernel)) ?_
      walk_at "go"
      refine w_inS ["ways", "trees", "woods", "parting", "lots"] (.inr (list_dp (M := []) T.u_LISTS)) ?_
      walk_at "go"
      refine w_yes ok.word ?_
      walk_at "go"
      refine w_addZ (by rw [one_blank]; omega) ?_
      walk_at "go"
      refine ⟨v2, ls, M, rfl, d2, ok.thing, hM, fun H1 e1 hM1 => ?_⟩
      refine w_addZ (by rw [len_app, one_blank]; have : (listsT ls).length ≤ 90000 := lt; omega) ?_
      exact hq H1 e1 hM1
    | ties ts =>
      have hw : w = "ties" := ok.word
      subst hw
      refine w_no (by decide +kernel) ?_
      walk_at "go"
      refine w_inS ["ways", "trees", "woods", "parting", "lots"] (.inr (list_dp (M := []) T.u_LISTS)) ?_
      walk_at "go"
      refine w_no (by decide +kernel) ?_
      walk_at "go"
      refine w_yes rfl ?_
      walk_at "go"
      refine w_addZ (by rw [one_blank]; omega) ?_
      walk_at "go"
      refine ⟨v2, ts, M, rfl, d2, ok.thing, hM, fun H1 e1 hM1 => ?_⟩
      refine w_addZ (by rw [len_app, one_blank]; have : (tiesT ts).length ≤ 90000 := lt; omega) ?_
      exact hq H1 e1 hM1
    | row f ss =>
      have hw : w = "row" := ok.word
      subst hw
      refine w_no (by decide +kernel) ?_
      walk_at "go"
      refine w_inS ["ways", "trees", "woods", "parting", "lots"] (.inr (list_dp (M := []) T.u_LISTS)) ?_
      walk_at "go"
      refine w_no (by decide +kernel) ?_
      walk_at "go"
      refine w_no (by decide +kernel) ?_
      walk_at "go"
      refine w_addZ (by rw [one_blank]; omega) ?_
      walk_at "go"
      refine ⟨v2, f, ss, M, rfl, d2, ok.thing, hM, fun H1 e1 hM1 => ?_⟩
      refine w_addZ (by rw [len_app, one_blank]; have : (rowT f ss).length ≤ 90000 := lt; omega) ?_
      exact hq H1 e1 hM1
def eP (w : Str) (t : Thing) : List (Str × Thing) := [(w, t)]
def e0 : List (Str × Thing) := [("side", .nums []), ("lot", .nums []), ("setting", .nums []), ("ways", .lists []), ("trees", .lists []), ("woods", .lists []), ("parting", .lists []), ("lots", .lists []), ("ties", .ties [])]
def e1 : List (Str × Thing) := [("ways", .lists [[]]), ("trees", .lists [[]]), ("woods", .lists [[]]), ("parting", .lists [[]]), ("lots", .lists [[]])]
def e2 : List (Str × Thing) := [("ways", .lists ((List.range 40).map fun k => [k])), ("lots", .lists [[0], [0], [], []]), ("ties", .ties (List.replicate 40 (0, 1)))]
def e3 : List (Str × Thing) := [("row", .row 0 (List.replicate 60 (.tie 0 1))), ("row", .row 6 [.place 1 (List.replicate 20 (0, 0))])]
def e4 : List (Str × Thing) := [("side", .nums ((List.range 97).map (fun k => 10 ^ 39 + k) ++ [10 ^ 17]))]
def e5 : List (Str × Thing) := [("row", .row 0 [.place 1 [(0, 0)], .place 1 [(0, 0)]])]
def e6 : List (Str × Thing) := [("lots", .lists [[], [0], []]), ("row", .row 0 []), ("row", .row 6 [.place 0 []]), ("ways", .lists [[0]])]
def e7 : List (Str × Thing) := [("row", .row 0 [.place 1 [(0, 0)], .tie 0 1, .place 2 [(0, 1), (1, 1)]])]
def emptyP : List (Str × Thing) := ((((((e0 ++ e1) ++ e2) ++ e3) ++ e4) ++ e5) ++ e6) ++ e7
def encP (e : Str × Thing) : PyData := dPaper e.1 e.2
def sp__law_empty (K : PySem.W.Frag) : Sp := fun vs H Q _ => vs = [] ∧ ∀ p H' us L, Ext H H' → H p = none → H' p = some (.lst us) → TrAll H' us (emptyP.map encP) L → p ∉ L → Fresh H L → Q (.ref p) H'
theorem ok__law_empty {P : Program} {w : World} {K : PySem.W.Frag} {mg : Str → Option Value} {base : Heap} (T : Txt K mg) : OkF P w K mg base CX0 1 "_law_empty" [] (sp__law_empty K) := by
  refine okF0 T.f__law_empty sc__law_empty (fun vs H Q E h => ?_) (fun _ _ _ _ _ _ us hl => match us, hl with | [], _ => rfl) (fun cdv A outer s H vs Q E hr h => ?_)
  · obtain ⟨rfl, q⟩ := h
    rfl
  · have hu := hu_of hr
    have kt : KTok K := rfl
    refine ⟨_, (pss_cons (ps_setLc (i := 0) (own := [("_law_word", 1)]) (g := (gName 1)) (tt := tYes) (by rfl) sc__law_empty.nd rfl rfl (sw_true rfl rfl rfl (by decide +kernel)) (pi_list (pe_lst (pa_cons pe_str (pa_cons pe_str (pa_cons pe_str (pa_cons pe_str (pa_cons pe_str (pa_cons pe_str (pa_cons pe_str (pa_cons pe_str (pa_cons pe_str pa_nil))))))))))) (blkOk_by (own := [("_law_word", 1)]) (N := ["_law_found", "_law_word", "_law_k"]) (sc := defScope s__law_empty) (by decide +kernel)) (fun _ _ _ _ _ => (pg_name (i := 1) sc__law_empty.nd rfl (Or.inl rfl))) (fun _ _ _ _ _ => pts_nil) (fun _ _ _ _ _ => (pe_tup (pa_cons (pv 1) (pa_cons (pe_lst pa_nil) pa_nil)))))
      (pss_cons (ps_set (i := 0) sc__law_empty.nd rfl (Or.inl rfl) (pe_op op_cat (pv 0) (pe_lc (own := [("_law_word", 1)]) (g := (gName 1)) (tt := tYes) (by rfl) sc__law_empty.nd (pi_list (pe_lst (pa_cons pe_str (pa_cons pe_str (pa_cons pe_str (pa_cons pe_str (pa_cons pe_str pa_nil))))))) (blkOk_by (own := [("_law_word", 1)]) (N := ["_law_found", "_law_word", "_law_k"]) (sc := defScope s__law_empty) (by decide +kernel)) (fun _ _ _ _ _ => (pg_name (i := 1) sc__law_empty.nd rfl (Or.inl rfl))) (fun _ _ _ _ _ => pts_nil) (fun _ _ _ _ _ => (pe_tup (pa_cons (pv 1) (pa_cons (pe_lst (pa_cons (pe_lst pa_nil) pa_nil)) pa_nil)))))))
      (pss_cons (ps_set (i := 0) sc__law_empty.nd rfl (Or.inl rfl) (pe_op op_cat (pv 0) (pe_lst (pa_cons (pe_tup (pa_cons pe_str (pa_cons (pe_lc (own := [("_law_k", 2)]) (g := (gName 2)) (tt := tYes) (by rfl) sc__law_empty.nd (pi_range1 (by rfl) T.m_range (pa_cons pe_int pa_nil)) (blkOk_by (own := [("_law_k", 2)]) (N := ["_law_found", "_law_word", "_law_k"]) (sc := defScope s__law_empty) (by decide +kernel)) (fun _ _ _ _ _ => (pg_name (i := 2) sc__law_empty.nd rfl (Or.inl rfl))) (fun _ _ _ _ _ => pts_nil) (fun _ _ _ _ _ => (pe_lst (pa_cons (pv 2) pa_nil)))) pa_nil))) (pa_cons (pe_tup (pa_cons pe_str (pa_cons (pe_lst (pa_cons (pe_lst (pa_cons pe_int pa_nil)) (pa_cons (pe_lst (pa_cons pe_int pa_nil)) (pa_cons (pe_lst pa_nil) (pa_cons (pe_lst pa_nil) pa_nil))))) pa_nil))) (pa_cons (pe_tup (pa_cons pe_str (pa_cons (pe_op op_rep (pe_lst (pa_cons (pe_tup (pa_cons pe_int (pa_cons pe_int pa_nil))) pa_nil)) pe_int) pa_nil))) pa_nil))))))
      (pss_cons (ps_set (i := 0) sc__law_empty.nd rfl (Or.inl rfl) (pe_op op_cat (pv 0) (pe_lst (pa_cons (pe_tup (pa_cons pe_str (pa_cons (pe_tup (pa_cons pe_int (pa_cons (pe_lc (own := [("_law_k", 2)]) (g := (gName 2)) (tt := tYes) (by rfl) sc__law_empty.nd (pi_range1 (by rfl) T.m_range (pa_cons pe_int pa_nil)) (blkOk_by (own := [("_law_k", 2)]) (N := ["_law_found", "_law_word", "_law_k"]) (sc := defScope s__law_empty) (by decide +kernel)) (fun _ _ _ _ _ => (pg_name (i := 2) sc__law_empty.nd rfl (Or.inl rfl))) (fun _ _ _ _ _ => pts_nil) (fun _ _ _ _ _ => (pe_tup (pa_cons pe_str (pa_cons pe_int (pa_cons pe_int pa_nil)))))) pa_nil))) pa_nil))) (pa_cons (pe_tup (pa_cons pe_str (pa_cons (pe_tup (pa_cons pe_int (pa_cons (pe_lst (pa_cons (pe_tup (pa_cons pe_str (pa_cons pe_int (pa_cons (pe_op op_rep (pe_lst (pa_cons (pe_tup (pa_cons pe_int (pa_cons pe_int pa_nil))) pa_nil)) pe_int) pa_nil)))) pa_nil)) pa_nil))) pa_nil))) pa_nil)))))
      (pss_cons (ps_set (i := 0) sc__law_empty.nd rfl (Or.inl rfl) (pe_op op_cat (pv 0) (pe_lst (pa_cons (pe_tup (pa_cons pe_str (pa_cons (pe_op op_cat (pe_lc (own := [("_law_k", 2)]) (g := (gName 2)) (tt := tYes) (by rfl) sc__law_empty.nd (pi_range1 (by rfl) T.m_range (pa_cons pe_int pa_nil)) (blkOk_by (own := [("_law_k", 2)]) (N := ["_law_found", "_law_word", "_law_k"]) (sc := defScope s__law_empty) (by decide +kernel)) (fun _ _ _ _ _ => (pg_name (i := 2) sc__law_empty.nd rfl (Or.inl rfl))) (fun _ _ _ _ _ => pts_nil) (fun _ _ _ _ _ => (pe_op op_add (pe_op op_pow pe_int pe_int) (pv 2)))) (pe_lst (pa_cons (pe_op op_pow pe_int pe_int) pa_nil))) pa_nil))) pa_nil))))
      (pss_cons (ps_set (i := 0) sc__law_empty.nd rfl (Or.inl rfl) (pe_op op_cat (pv 0) (pe_lst (pa_cons (pe_tup (pa_cons pe_str (pa_cons (pe_tup (pa_cons pe_int (pa_cons (pe_lst (pa_cons (pe_tup (pa_cons pe_str (pa_cons pe_int (pa_cons (pe_lst (pa_cons (pe_tup (pa_cons pe_int (pa_cons pe_int pa_nil))) pa_nil)) pa_nil)))) (pa_cons (pe_tup (pa_cons pe_str (pa_cons pe_int (pa_cons (pe_lst (pa_cons (pe_tup (pa_cons pe_int (pa_cons pe_int pa_nil))) pa_nil)) pa_nil)))) pa_nil))) pa_nil))) pa_nil))) pa_nil))))
      (pss_cons (ps_set (i := 0) sc__law_empty.nd rfl (Or.inl rfl) (pe_op op_cat (pv 0) (pe_lst (pa_cons (pe_tup (pa_cons pe_str (pa_cons (pe_lst (pa_cons (pe_lst pa_nil) (pa_cons (pe_lst (pa_cons pe_int pa_nil)) (pa_cons (pe_lst pa_nil) pa_nil)))) pa_nil))) (pa_cons (pe_tup (pa_cons pe_str (pa_cons (pe_tup (pa_cons pe_int (pa_cons (pe_lst pa_nil) pa_nil))) pa_nil))) (pa_cons (pe_tup (pa_cons pe_str (pa_cons (pe_tup (pa_cons pe_int (pa_cons (pe_lst (pa_cons (pe_tup (pa_cons pe_str (pa_cons pe_int (pa_cons (pe_lst pa_nil) pa_nil)))) pa_nil)) pa_nil))) pa_nil))) (pa_cons (pe_tup (pa_cons pe_str (pa_cons (pe_lst (pa_cons (pe_lst (pa_cons pe_int pa_nil)) pa_nil)) pa_nil))) pa_nil)))))))
      (pss_one (ps_ret (pe_op op_cat (pv 0) (pe_lst (pa_cons (pe_tup (pa_cons pe_str (pa_cons (pe_tup (pa_cons pe_int (pa_cons (pe_lst (pa_cons (pe_tup (pa_cons pe_str (pa_cons pe_int (pa_cons (pe_lst (pa_cons (pe_tup (pa_cons pe_int (pa_cons pe_int pa_nil))) pa_nil)) pa_nil)))) (pa_cons (pe_tup (pa_cons pe_str (pa_cons pe_int (pa_cons pe_int pa_nil)))) (pa_cons (pe_tup (pa_cons pe_str (pa_cons pe_int (pa_cons (pe_lst (pa_cons (pe_tup (pa_cons pe_int (pa_cons pe_int pa_nil))) (pa_cons (pe_tup (pa_cons pe_int (pa_cons pe_int pa_nil))) pa_nil))) pa_nil)))) pa_nil)))) pa_nil))) pa_nil))) pa_nil)))))))))))), ?_⟩
    obtain ⟨rfl, q⟩ := h
    try dsimp only [cxOf, Cx.nox, Cx.wish]
    refine start_as (σ := [none, none, none]) rfl ?_
    refine s_asg ?_
    refine bld_lcS ["side", "lot", "setting", "ways", "trees", "woods", "parting", "lots", "ties"] (f := fun w => .tuple [.str w, .list []]) (by walk_at "bld") (by decide) (fun _ => rfl) (fun w => by walk_at "bld") H _ fun v H1 L1 x1 t1 f1 => ?_
    obtain ⟨p1, rfl⟩ := tr_lref t1
    refine s_asg ?_
    refine bld_cat rfl t1 (bld_lcS ["ways", "trees", "woods", "parting", "lots"] (f := fun w => .tuple [.str w, .list [.list []]]) (by walk_at "bld") (by decide) (fun _ => rfl) (fun w => by walk_at "bld")) (by decide) fun p2 H2 L2 x2 t2 f2 => ?_
    refine s_asg ?_
    refine bld_cat rfl t2 (by walk_at "bld") (by decide) fun p3 H3 L3 x3 t3 f3 => ?_
    refine s_asg ?_
    refine bld_cat rfl t3 (by walk_at "bld") (by decide) fun p4 H4 L4 x4 t4 f4 => ?_
    refine s_asg ?_
    refine bld_cat rfl t4 (bld_lst (bldA_cons (bld_tup (bldA_cons bld_str (bldA_cons (bld_cat2 (bld_lcR (n := 97) (f := fun i => .int (10 ^ Int.toNat 39 + i)) (by decide) (fun _ => rfl) (fun i => bld_i fun H Q q => by walk_at "go0"; exact q)) (bld_lst (bldA_cons (bld_i (i := 10 ^ Int.toNat 17) fun H Q q => by walk_at "go0"; exact q) bldA_nil) (by decide)) (by decide)) bldA_nil)) (by decide)) bldA_nil) (by decide)) (by decide) fun p5 H5 L5 x5 t5 f5 => ?_
    refine s_asg ?_
    refine bld_cat rfl t5 (by walk_at "bld") (by decide) fun p6 H6 L6 x6 t6 f6 => ?_
    refine s_asg ?_
    refine bld_cat rfl t6 (by walk_at "bld") (by decide) fun p7 H7 L7 x7 t7 f7 => ?_
    refine s_ret ?_
    refine bld_cat rfl t7 (by walk_at "bld") (by decide) fun p8 H8 L8 x8 t8 f8 => ?_
    have fr : Fresh H L8 := f8 H (by walk_at "ext") (f7 H (by walk_at "ext") (f6 H (by walk_at "ext") (f5 H (by walk_at "ext") (f4 H (by walk_at "ext") (f3 H (by walk_at "ext") (f2 H (by walk_at "ext") f1))))))
    cases t8 with
    | lst h r n =>
      refine q p8 H8 _ _ (by walk_at "ext") (fr p8 List.mem_cons_self) h ?_ n fun a m => fr a (List.mem_cons_of_mem _ m)
      exact r
def sp__law_numbers_text (K : PySem.W.Frag) : Sp := fun vs H Q _ => ∃ (x : V) (ns : List Nat) (M : List Addr), vs = [x] ∧ Dp K (vis M H) x (.list (dNums ns)) ∧ okNs ns ∧ Dom M H ∧ ∀ H', Ext H H' → Dom M H' → Q (.str (numsT ns)) H'
theorem ok__law_numbers_text {P : Program} {w : World} {K : PySem.W.Frag} {mg : Str → Option Value} {base : Heap} (T : Txt K mg) : OkF P w K mg base CX0 1 "_law_numbers_text" ["_law_numbers_here"] (sp__law_numbers_text K) := by
  refine okF0 T.f__law_numbers_text sc__law_numbers_text (fun vs H Q E h => ?_) (fun _ _ _ _ _ _ us hl => match us, hl with | [_], _ => rfl) (fun cdv A outer s H vs Q E hr h => ?_)
  · obtain ⟨x, ns, M, rfl, hd, ⟨hl, hn⟩, hM, q⟩ := h
    rfl
  · have hu := hu_of hr
    have kt : KTok K := rfl
    refine ⟨_, (pss_one (ps_ret (pe_op on_addZ (pn_join pe_str (pe_lc (own := [("_law_number", 1)]) (g := (gName 1)) (tt := tYes) (by rfl) sc__law_numbers_text.nd (pi_list (pv 0)) (blkOk_by (own := [("_law_number", 1)]) (N := ["_law_numbers_here", "_law_number"]) (sc := defScope s__law_numbers_text) (by decide +kernel)) (fun _ _ _ _ _ => (pg_name (i := 1) sc__law_numbers_text.nd rfl (Or.inl rfl))) (fun _ _ _ _ _ => pts_nil) (fun _ _ _ _ _ => (pe_callTy (T := "str") (r := rStrI) cn_str (by rfl) T.m_str (by decide +kernel) (pa_cons (pv 1) pa_nil))))) (pe_op on_mulZ pe_str (pe_callTy cn_int (by rfl) T.m_int (by decide +kernel) (pa_cons (pe_cmpR (op_eqD hr.units) (pv 0) (pe_lst pa_nil) (nomark _)) pa_nil)))))), ?_⟩
    obtain ⟨x, ns, M, rfl, hd, ⟨hl, hn⟩, hM, q⟩ := h
    try dsimp only [cxOf, Cx.nox, Cx.wish]
    refine start_as (σ := [some _, none]) rfl ?_
    walk_at "go"
    refine i_listD hd fun a xs ea hL hA => ?_
    refine lm_L (K := K) (M := M) ns (fun (n : Nat) => PyData.int (n : Int)) nz PyData.str (by omega) hM hL hA (fun D i n x2 H5 hi e5 dm hD hx Ky k1 => ?_) (fun D H5 e5 hM5 hD h5 => ?_)
    · cases dp_int hx
      walk_at "go"
      refine ⟨rfl, ?_⟩
      walk_at "go"
      exact w_strN (hn n (List.mem_of_getElem? hi)) (k1 _ _ (Ext.refl _) (.str _))
    · walk_at "go"
      have hs := nums_sumT hn
      have hj := join_len " " (ns.map nz)
      rw [one_blank, List.length_map] at hj
      refine w_join (ns.map nz) h5.dp (by rw [one_blank, List.length_map]; omega) ?_
      walk_at "go"
      rename_i p6 H6 e6 hM6 h6
      refine w_eqNil (k := 1) (dpx e6 (dpx e5 hd)) h6 (.list (shp_nums ns)) (by decide) ?_
      walk_at "go"
      refine w_mulB ?_
      refine w_addZ ?_ ?_
      · split
        · rw [one_dash]; omega
        · rw [len_empty]; omega
      · rw [nums_eq]
        exact q H6 (e5.trans e6) hM6
def sp__law_pairs_text (K : PySem.W.Frag) : Sp := fun vs H Q _ => ∃ (x : V) (ts : List (Nat × Nat)) (M : List Addr), vs = [x] ∧ Dp K (vis M H) x (.list (ts.map dTie)) ∧ ts.length ≤ 40 ∧ (∀ t ∈ ts, okPair t) ∧ Dom M H ∧ ∀ H', Ext H H' → Dom M H' → Q (.str (Txt.join " " (pzs ts))) H'
theorem ok__law_pairs_text {P : Program} {w : World} {K : PySem.W.Frag} {mg : Str → Option Value} {base : Heap} (T : Txt K mg) : OkF P w K mg base CX0 1 "_law_pairs_text" ["_law_pairs"] (sp__law_pairs_text K) := by
  refine okF0 T.f__law_pairs_text sc__law_pairs_text (fun vs H Q E h => ?_) (fun _ _ _ _ _ _ us hl => match us, hl with | [_], _ => rfl) (fun cdv A outer s H vs Q E hr h => ?_)
  · obtain ⟨x, ts, M, rfl, hd, hl, hn, hM, q⟩ := h
    rfl
  · have hu := hu_of hr
    have kt : KTok K := rfl
    refine ⟨_, (pss_one (ps_ret (pn_join pe_str (pe_lc (own := [("_law_a", 1), ("_law_b", 2)]) (g := (gTup _ 2 (gCons (gName 1) (gCons (gName 2) gNil)))) (tt := tYes) (by rfl) sc__law_pairs_text.nd (pi_list (pv 0)) (blkOk_by (own := [("_law_a", 1), ("_law_b", 2)]) (N := ["_law_pairs", "_law_a", "_law_b"]) (sc := defScope s__law_pairs_text) (by decide +kernel)) (fun _ _ _ _ _ => (pg_tup rfl (pgs_cons (pg_name (i := 1) sc__law_pairs_text.nd rfl (Or.inl rfl)) (pgs_cons (pg_name (i := 2) sc__law_pairs_text.nd rfl (Or.inl rfl)) pgs_nil)))) (fun _ _ _ _ _ => pts_nil) (fun _ _ _ _ _ => (pe_op on_addZ (pe_op on_addZ (pe_callTy (T := "str") (r := rStrI) cn_str (by rfl) T.m_str (by decide +kernel) (pa_cons (pv 1) pa_nil)) pe_str) (pe_callTy (T := "str") (r := rStrI) cn_str (by rfl) T.m_str (by decide +kernel) (pa_cons (pv 2) pa_nil)))))))), ?_⟩
    obtain ⟨x, ts, M, rfl, hd, hl, hn, hM, q⟩ := h
    try dsimp only [cxOf, Cx.nox, Cx.wish]
    refine start_as (σ := [some _, none, none]) rfl ?_
    walk_at "go"
    refine i_listD hd fun a xs ea hL hA => ?_
    refine lm_L (K := K) (M := M) ts dTie (fun t => pz t.1 t.2) PyData.str (by omega) hM hL hA (fun D i t x2 H5 hi e5 dm hD hx Ky k1 => ?_) (fun D H5 e5 hM5 hD h5 => ?_)
    · have ot := hn t (List.mem_of_getElem? hi)
      obtain ⟨o1, o2⟩ := ot
      have la := nz_le (n := t.1) (by omega)
      have lb := nz_le (n := t.2) o2
      refine g_tup2 hx fun v3 v4 d3 d4 => ?_
      cases dp_int d3
      cases dp_int d4
      refine ⟨rfl, ?_⟩
      walk_at "go"
      refine w_strN (by omega) ?_
      walk_at "go"
      refine w_addZ (by rw [one_dash]; omega) ?_
      walk_at "go"
      refine w_strN o2 ?_
      walk_at "go"
      refine w_addZ (by rw [len_app, one_dash]; omega) ?_
      exact k1 _ _ (Ext.refl _) (.str _)
    · walk_at "go"
      have hs := pzs_sumT hn
      refine w_join (pzs ts) h5.dp (by rw [one_blank, pzs_len]; omega) (q H5 e5 hM5)
def sp__law_step_text (K : PySem.W.Frag) : Sp := fun vs H Q _ => ∃ (x : V) (s : Stp) (M : List Addr), vs = [x] ∧ Dp K (vis M H) x (dStp s) ∧ okStp s ∧ Dom M H ∧ ∀ H', Ext H H' → Dom M H' → Q (.str ("; " ++ stepT s)) H'
theorem join_one (s a : Str) : Txt.join s [a] = a := by
  apply TL.ext_tl
  rw [TL.join_eq, TL.tl_join]; rfl
theorem tie_eq (a b : Nat) : ("; tie " : Str) ++ Txt.join " " (pzs [(a, b)]) = "; " ++ stepT (.tie a b) := by
  show ("; tie " : Str) ++ Txt.join " " [pz a b] = "; " ++ ("tie " ++ pz a b)
  have e := app_assoc "; " "tie " (pz a b)
  rw [join_one, ← e, show (("; " : Str) ++ ("tie " : Str)) = ("; tie " : Str) by decide +kernel]
theorem ok__law_step_text {P : Program} {w : World} {K : PySem.W.Frag} {mg : Str → Option Value} {base : Heap} (T : Txt K mg) (O__law_pairs_text : OkF P w K mg base CX0 1 "_law_pairs_text" ["_law_pairs"] (sp__law_pairs_text K)) : OkF P w K mg base CX0 2 "_law_step_text" ["_law_step_here"] (sp__law_step_text K) := by
  refine okF0 T.f__law_step_text sc__law_step_text (fun vs H Q E h => ?_) (fun _ _ _ _ _ _ us hl => match us, hl with | [_], _ => rfl) (fun cdv A outer s H vs Q E hr h => ?_)
  · obtain ⟨x, s, M, rfl, hd, ok, hM, q⟩ := h
    rfl
  · have hu := hu_of hr
    have kt : KTok K := rfl
    refine ⟨_, (pss_cons (ps_if (pt_cmpR op_eq (pe_ix ix_tup (pv 0) pe_int (fun _ _ => rfl)) pe_str (nomark _)) (pss_one (ps_ret (pe_op on_addZ pe_str (pe_callF O__law_pairs_text (hr.mono (by first | decide | omega)) (by rfl) pass0 (pa_cons (pe_lst (pa_cons (pe_slice sl_tupA (pv 0) (po_some pe_int) po_none) pa_nil)) pa_nil))))) pss_nil)
      (pss_one (ps_ret (pe_op on_addZ pe_str (pn_join pe_str (pe_op op_cat (pe_lst (pa_cons (pe_callTy cn_str (by rfl) T.m_str (by decide +kernel) (pa_cons (pe_ix ix_tup (pv 0) pe_int (fun _ _ => rfl)) pa_nil)) pa_nil)) (pe_lc (own := [("_law_pair_here", 1)]) (g := (gName 1)) (tt := tYes) (by rfl) sc__law_step_text.nd (pi_list (pe_ix ix_tup (pv 0) pe_int (fun _ _ => rfl))) (blkOk_by (own := [("_law_pair_here", 1)]) (N := ["_law_step_here", "_law_pair_here"]) (sc := defScope s__law_step_text) (by decide +kernel)) (fun _ _ _ _ _ => (pg_name (i := 1) sc__law_step_text.nd rfl (Or.inl rfl))) (fun _ _ _ _ _ => pts_nil) (fun _ _ _ _ _ => (pe_callF O__law_pairs_text (hr.mono (by first | decide | omega)) (by rfl) pass0 (pa_cons (pe_lst (pa_cons (pv 1) pa_nil)) pa_nil)))))))))), ?_⟩
    obtain ⟨x, s, M, rfl, hd, ok, hM, q⟩ := h
    try dsimp only [cxOf, Cx.nox, Cx.wish]
    refine start_as (σ := [some _, none]) rfl ?_
    cases s with
    | tie a b =>
      have hd : Dp K (vis M H) x (.tuple [.str "tie", .int a, .int b]) := hd
      obtain ⟨h1, h2⟩ := ok
      walk_at "go"
      refine w_yes rfl ?_
      walk_at "go"
      refine w_slT hM hd fun p1 H1 e1 hM1 d1 => ?_
      have d1 : Dp K (vis M H1) (.ref p1) (dTie (a, b)) := d1
      walk_at "go"
      rename_i p2 H2 e2 hM2 l2
      refine ⟨.ref p2, [(a, b)], M, rfl, l2, by simp, fun t ht => ?_, hM2, fun H3 e3 hM3 => ?_⟩
      · rw [List.mem_singleton.mp ht]; exact ⟨Nat.le_of_lt h1, h2⟩
      have : (pz a b).length ≤ 81 := pz_le (by omega) h2
      refine w_addZ ?_ ?_
      · show _ + (Txt.join " " [pz a b]).length ≤ _
        rw [join_one, show ("; tie " : Str).length = 6 by decide +kernel]; omega
      · rw [tie_eq]
        exact q H3 (by walk_at "ext") hM3
    | place p ps =>
      have hd : Dp K (vis M H) x (.tuple [.str "place", .int p, .list (ps.map dTie)]) := hd
      obtain ⟨hp, hl, hn⟩ := ok
      walk_at "go"
      refine w_no (by decide +kernel) ?_
      walk_at "go0"
      refine w_strN hp ?_
      walk_at "go0"
      refine w_newLst kt hM (.cons (.str (nz p)) .nil) (by exact Nat.le_of_ble_eq_true rfl) fun p1 H1 e1 hM1 h1 => ?_
      walk_at "go"
      refine w_ixT (dpx e1 hd) rfl fun v hv => ?_
      walk_at "go"
      refine i_listD hv fun a xs ea hL hA => ?_
      refine lm_L (K := K) (M := M) ps dTie (fun t => pz t.1 t.2) PyData.str (by omega) hM1 hL hA (fun D i t x2 H5 hi e5 dm hD hx Ky k1 => ?_) (fun D H5 e5 hM5 hD h5 => ?_)
      · have ot := hn t (List.mem_of_getElem? hi)
        walk_at "go"
        refine ⟨rfl, ?_⟩
        walk_at "go"
        rename_i p2 H2 e2 hM2 l2
        refine ⟨.ref p2, [t], D :: M, rfl, l2, by simp, fun t' ht => ?_, hM2, fun H6 e6 _ => ?_⟩
        · rw [List.mem_singleton.mp ht]; exact ot
        · have e : Txt.join " " (pzs [t]) = pz t.1 t.2 := join_one _ _
          rw [e]
          exact k1 _ _ (e2.trans e6) (.str _)
      · refine w_catD hM5 (h1.ext e5) h5 (by simp; omega) fun p2 H6 e6 hM6 h6 => ?_
        have hs := pzs_sumT hn
        have hp' := nz_le hp
        have hj := join_len " " (nz p :: pzs ps)
        rw [one_blank, List.map_cons, List.sum_cons, List.length_cons, pzs_len] at hj
        refine w_join (nz p :: pzs ps) h6.dp (by rw [one_blank, List.map_cons, List.sum_cons, List.length_cons, pzs_len]; omega) ?_
        refine w_addZ (by rw [show ("; place " : Str).length = 8 by decide +kernel]; omega) ?_
        rw [place_eq]
        exact q _ (e1.trans (e5.trans e6)) hM6
theorem word_ne {w x : Str} {A : List Str} (h : w ∈ A) (d : x ∉ A) : w ≠ x := fun z => d (z ▸ h)
def sp__law_paper_text (K : PySem.W.Frag) : Sp := fun vs H Q _ => ∃ (x : V) (w : Str) (t : Thing) (M : List Addr), vs = [x] ∧ Dp K (vis M H) x (dPaper w t) ∧ okPaper w t ∧ Dom M H ∧ ∀ H', Ext H H' → Dom M H' → Q (.str (paperT w t)) H'
theorem ok__law_paper_text {P : Program} {w : World} {K : PySem.W.Frag} {mg : Str → Option Value} {base : Heap} (T : Txt K mg) (O__law_numbers_text : OkF P w K mg base CX0 1 "_law_numbers_text" ["_law_numbers_here"] (sp__law_numbers_text K)) (O__law_pairs_text : OkF P w K mg base CX0 1 "_law_pairs_text" ["_law_pairs"] (sp__law_pairs_text K)) (O__law_step_text : OkF P w K mg base CX0 2 "_law_step_text" ["_law_step_here"] (sp__law_step_text K)) : OkF P w K mg base CX0 3 "_law_paper_text" ["_law_paper_here"] (sp__law_paper_text K) := by
  refine okF0 T.f__law_paper_text sc__law_paper_text (fun vs H Q E h => ?_) (fun _ _ _ _ _ _ us hl => match us, hl with | [_], _ => rfl) (fun cdv A outer s H vs Q E hr h => ?_)
  · obtain ⟨x, w, t, M, rfl, hd, ok, hM, q⟩ := h
    rfl
  · have hu := hu_of hr
    have kt : KTok K := rfl
    refine ⟨_, (pss_cons (ps_asg (pv 0) (pg_tup rfl (pgs_cons (pg_name (i := 1) sc__law_paper_text.nd rfl (Or.inl rfl)) (pgs_cons (pg_name (i := 2) sc__law_paper_text.nd rfl (Or.inl rfl)) pgs_nil))))
      (pss_cons (ps_if (pt_cmpR op_in_seq (pv 1) (pe_tup (pa_cons pe_str (pa_cons pe_str (pa_cons pe_str pa_nil)))) (by rfl)) (pss_one (ps_ret (pe_op on_addZ (pe_op on_addZ (pv 1) pe_str) (pe_callF O__law_numbers_text (hr.mono (by first | decide | omega)) (by rfl) pass0 (pa_cons (pv 2) pa_nil))))) pss_nil)
      (pss_cons (ps_if (pt_cmpR op_eq (pv 1) pe_str (nomark _)) (pss_one (ps_ret (pe_op on_addZ (pe_op on_addZ (pe_op on_addZ (pv 1) pe_str) (pe_callF O__law_pairs_text (hr.mono (by first | decide | omega)) (by rfl) pass0 (pa_cons (pv 2) pa_nil))) (pe_op on_mulZ pe_str (pe_callTy cn_int (by rfl) T.m_int (by decide +kernel) (pa_cons (pe_cmpR (op_eqD hr.units) (pv 2) (pe_lst pa_nil) (nomark _)) pa_nil)))))) pss_nil)
      (pss_cons (ps_if (pt_cmpR op_eq (pv 1) pe_str (nomark _)) (pss_one (ps_ret (pe_op on_addZ (pe_op on_addZ pe_str (pe_callTy cn_str (by rfl) T.m_str (by decide +kernel) (pa_cons (pe_ix ix_tup (pv 2) pe_int (fun _ _ => rfl)) pa_nil))) (pn_join pe_str (pe_lc (own := [("_law_step_here", 3)]) (g := (gName 3)) (tt := tYes) (by rfl) sc__law_paper_text.nd (pi_list (pe_ix ix_tup (pv 2) pe_int (fun _ _ => rfl))) (blkOk_by (own := [("_law_step_here", 3)]) (N := ["_law_paper_here", "_law_word", "_law_thing", "_law_step_here", "_law_numbers_here"]) (sc := defScope s__law_paper_text) (by decide +kernel)) (fun _ _ _ _ _ => (pg_name (i := 3) sc__law_paper_text.nd rfl (Or.inl rfl))) (fun _ _ _ _ _ => pts_nil) (fun _ _ _ _ _ => (pe_callF O__law_step_text (hr.mono (by first | decide | omega)) (by rfl) pass0 (pa_cons (pv 3) pa_nil)))))))) pss_nil)
      (pss_one (ps_ret (pe_op on_addZ (pe_op on_addZ (pe_op on_addZ (pv 1) pe_str) (pn_join pe_str (pe_lc (own := [("_law_numbers_here", 4)]) (g := (gName 4)) (tt := tYes) (by rfl) sc__law_paper_text.nd (pi_list (pv 2)) (blkOk_by (own := [("_law_numbers_here", 4)]) (N := ["_law_paper_here", "_law_word", "_law_thing", "_law_step_here", "_law_numbers_here"]) (sc := defScope s__law_paper_text) (by decide +kernel)) (fun _ _ _ _ _ => (pg_name (i := 4) sc__law_paper_text.nd rfl (Or.inl rfl))) (fun _ _ _ _ _ => pts_nil) (fun _ _ _ _ _ => (pe_callF O__law_numbers_text (hr.mono (by first | decide | omega)) (by rfl) pass0 (pa_cons (pv 4) pa_nil)))))) (pe_op on_mulZ pe_str (pe_callTy cn_int (by rfl) T.m_int (by decide +kernel) (pa_cons (pe_cmpR (op_eqD hr.units) (pv 2) (pe_lst pa_nil) (nomark _)) pa_nil)))))))))), ?_⟩
    obtain ⟨x, w, t, M, rfl, hd, ok, hM, q⟩ := h
    try dsimp only [cxOf, Cx.nox, Cx.wish]
    refine start_as (σ := [some _, none, none, none, none]) rfl ?_
    have hd : Dp K (vis M H) x (.tuple [.str w, dThing t]) := hd
    obtain ⟨lw, _⟩ := word_len ok.word
    have lt := ok.len
    have hq : ∀ H', Ext H H' → Dom M H' → Q (.str (w ++ " " ++ thingT t)) H' := q
    walk_at "go"
    refine g_tup2 hd fun v1 v2 d1 d2 => ?_
    cases dp_str d1
    walk_at "go"
    rename_i p1 H1 e1 hM1 h1
    refine w_inS ["side", "lot", "setting"] (.inr h1) ?_
    have d2 := dpx e1 d2
    walk_at "go"
    cases t with
    | nums ns =>
      refine w_yes ok.word ?_
      walk_at "go"
      refine w_addZ (by rw [one_blank]; omega) ?_
      walk_at "go"
      refine ⟨v2, ns, M, rfl, d2, ok.thing, hM1, fun H2 e2 hM2 => ?_⟩
      refine w_addZ (by rw [len_app, one_blank]; have : (numsT ns).length ≤ 90000 := lt; omega) ?_
      exact hq H2 (e1.trans e2) hM2
    | ties ts =>
      have hw : w = "ties" := ok.word
      subst hw
      have hn := okT_pair ok.thing.2
      have hl : ts.length ≤ 40 := ok.thing.1
      refine w_no (by decide +kernel) ?_
      walk_at "go"
      refine w_yes rfl ?_
      walk_at "go"
      refine w_addZ (by rw [one_blank]; omega) ?_
      walk_at "go"
      refine ⟨v2, ts, M, rfl, d2, hl, hn, hM1, fun H2 e2 hM2 => ?_⟩
      have hs := pzs_sumT hn
      have hj := join_len " " (pzs ts)
      rw [one_blank, pzs_len] at hj
      refine w_addZ (by rw [len_app, one_blank]; omega) ?_
      walk_at "go"
      rename_i p3 H3 e3 hM3 h3
      refine w_eqNil (k := 2) (dpx e3 (dpx e2 d2)) h3 (shp_ties ts) (by decide) ?_
      walk_at "go"
      refine w_mulB ?_
      refine w_addZ ?_ ?_
      · rw [len_app, len_app, one_blank]
        split
        · rw [one_dash]; omega
        · rw [len_empty]; omega
      · rw [app_assoc, ties_eq]
        exact hq H3 (by walk_at "ext") hM3
    | row f ss =>
      have hw : w = "row" := ok.word
      subst hw
      obtain ⟨hf, hl, hn⟩ := ok.thing
      have d2 : Dp K (vis M H1) v2 (.tuple [.int f, .list (ss.map dStp)]) := d2
      refine w_no (by decide +kernel) ?_
      walk_at "go"
      refine w_no (by decide +kernel) ?_
      walk_at "go"
      refine w_yes rfl ?_
      walk_at "go"
      refine w_strN hf ?_
      have hf' := nz_le hf
      walk_at "go"
      refine w_addZ (by rw [show ("row " : Str).length = 4 by decide +kernel]; omega) ?_
      walk_at "go"
      refine w_ixT d2 rfl fun v hv => ?_
      walk_at "go"
      refine i_listD hv fun a xs ea hL hA => ?_
      refine lm_L (K := K) (M := M) ss dStp (fun s => "; " ++ stepT s) PyData.str (by omega) hM1 hL hA (fun D i s x2 H5 hi e5 dm hD hx Ky k1 => ?_) (fun D H5 e5 hM5 hD h5 => ?_)
      · walk_at "go"
        refine ⟨rfl, ?_⟩
        walk_at "go"
        exact ⟨x2, s, D :: M, rfl, hx, hn s (List.mem_of_getElem? hi), dm, fun H6 e6 _ => k1 _ _ e6 (.str _)⟩
      · walk_at "go"
        have hs := semi_sum hn
        have z0 : ("" : Str).length = 0 := rfl
        have hj := join_len "" (ss.map fun s => "; " ++ stepT s)
        rw [z0, List.length_map] at hj
        have lr : (rowT f ss).length ≤ 90000 := lt
        have le : ((("row " : Str) ++ nz f) ++ Txt.join "" (ss.map fun s => "; " ++ stepT s)).length ≤ 90010 := by
          rw [row_eq, len_app, len_app, one_blank, show ("row" : Str).length = 3 by decide +kernel]; omega
        rw [len_app] at le
        refine w_join _ h5.dp (by rw [z0, List.length_map]; omega) ?_
        refine w_addZ (by omega) ?_
        rw [row_eq]
        exact hq H5 (by walk_at "ext") hM5
    | lists ls =>
      have hn := ok.thing.2
      have hl : ls.length ≤ 40 := ok.thing.1
      have d2 : Dp K (vis M H1) v2 (.list (ls.map fun ns => .list (dNums ns))) := d2
      refine w_no (word_in ok.word (by decide +kernel)) ?_
      walk_at "go"
      refine w_no (word_ne ok.word (by decide +kernel)) ?_
      walk_at "go"
      refine w_no (word_ne ok.word (by decide +kernel)) ?_
      walk_at "go"
      refine w_addZ (by rw [one_blank]; omega) ?_
      walk_at "go"
      refine i_listD d2 fun a xs ea hL hA => ?_
      refine lm_L (K := K) (M := M) ls (fun ns => .list (dNums ns)) numsT PyData.str (by omega) hM1 hL hA (fun D i ns x2 H5 hi e5 dm hD hx Ky k1 => ?_) (fun D H5 e5 hM5 hD h5 => ?_)
      · walk_at "go"
        refine ⟨rfl, ?_⟩
        walk_at "go"
        exact ⟨x2, ns, D :: M, rfl, hx, hn ns (List.mem_of_getElem? hi), dm, fun H6 e6 _ => k1 _ _ e6 (.str _)⟩
      · walk_at "go"
        have hs := lists_sum hn
        have lt' : (listsT ls).length ≤ 90000 := lt
        have le : (Txt.join ", " (ls.map numsT)).length + (if ((ls.map fun ns => PyData.list (dNums ns)) = []) then ("none" : Str) else Str.empty).length ≤ 90000 := by
          rw [← len_app, lists_eq]; exact lt'
        refine w_join _ h5.dp (by rw [show (", " : Str).length = 2 by decide +kernel, List.length_map]; omega) ?_
        refine w_addZ (by rw [len_app, one_blank]; omega) ?_
        walk_at "go"
        rename_i p6 H6 e6 hM6 h6
        refine w_eqNil (k := 5) (dpx e6 (dpx e5 d2)) h6 (shp_thing (.lists ls)) (by decide) ?_
        walk_at "go"
        refine w_mulB ?_
        refine w_addZ (by rw [len_app, len_app, one_blank]; omega) ?_
        rw [app_assoc, lists_eq]
        exact hq H6 (by walk_at "ext") hM6
def sp_read_numbers (K : PySem.W.Frag) : Sp := fun vs H Q _ => ∃ (ns : List Nat), vs = [.str (numsT ns)] ∧ okNs ns ∧ ∀ v H' L, Ext H H' → Tr H' v (.list (dNums ns)) L → Fresh H L → Q v H'
theorem ok_read_numbers {P : Program} {w : World} {K : PySem.W.Frag} {mg : Str → Option Value} {base : Heap} (T : Txt K mg) (O_number_in : OkF P w K mg base CX0 1 "number_in" ["word"] (sp_number_in K)) : OkF P w K mg base CX0 2 "read_numbers" ["text"] (sp_read_numbers K) := by
  refine okF0 T.f_read_numbers sc_read_numbers (fun vs H Q E h => ?_) (fun _ _ _ _ _ _ us hl => match us, hl with | [_], _ => rfl) (fun cdv A outer s H vs Q E hr h => ?_)
  · obtain ⟨ns, rfl, ⟨hl, hn⟩, q⟩ := h
    rfl
  · have hu := hu_of hr
    have kt : KTok K := rfl
    refine ⟨_, (pss_cons (ps_if (pt_cmpR op_eq (pv 0) pe_str (nomark _)) (pss_one (ps_ret (pe_lst pa_nil))) pss_nil)
      (pss_one (ps_ret (pe_lc (own := [("word", 1)]) (g := (gName 1)) (tt := tYes) (by rfl) sc_read_numbers.nd (pi_list (pn_split (pv 0) pe_str)) (blkOk_by (own := [("word", 1)]) (N := ["text", "word"]) (sc := defScope s_read_numbers) (by decide +kernel)) (fun _ _ _ _ _ => (pg_name (i := 1) sc_read_numbers.nd rfl (Or.inl rfl))) (fun _ _ _ _ _ => pts_nil) (fun _ _ _ _ _ => (pe_callF O_number_in (hr.mono (by first | decide | omega)) (by rfl) pass0 (pa_cons (pv 1) pa_nil))))))), ?_⟩
    obtain ⟨ns, rfl, ⟨hl, hn⟩, q⟩ := h
    try dsimp only [cxOf, Cx.nox, Cx.wish]
    refine start_as (σ := [some _, none]) rfl ?_
    have hM : Dom [] H := Dom.nil
    walk_at "go"
    refine w_ite (fun c => ?_) (fun c => ?_)
    · have e : ns = [] := by
        by_cases e : ns = []
        · exact e
        · exact absurd c (nums_ne e)
      subst e
      walk_at "go0"
      refine w_newLt .nil (by exact Nat.le_of_ble_eq_true rfl) fun p H1 e1 hp _ t1 => ?_
      exact q _ H1 _ e1 t1 (Fresh.nil.cons hp)
    · have e : ns ≠ [] := fun z => c (by rw [z]; rfl)
      walk_at "go"
      have := nums_lenT hl hn
      refine w_split kt hM (by decide +kernel) (by omega) fun p H1 e1 hM1 hd => ?_
      rw [split_nums e, List.map_map] at hd
      walk_at "go"
      refine i_listD hd fun a xs ea hL hA => ?_
      refine lt_L (K := K) (M := []) ns (PyData.str ∘ nz) (fun (n : Nat) => PyData.int (n : Int)) (by omega) hL hA (fun D i n x2 H2 hi e2 hD hx Ky k1 => ?_) (fun D H2 L e2 hD t2 f2 => ?_)
      · cases dp_str hx
        walk_at "go"
        refine ⟨rfl, ?_⟩
        walk_at "go"
        exact ⟨n, rfl, hn n (List.mem_of_getElem? hi), fun H3 e3 => k1 _ _ [] e3 (.int _) .nil⟩
      · exact q _ H2 L (e1.trans e2) t2 (f2.back e1)
def sp_read_lists (K : PySem.W.Frag) : Sp := fun vs H Q _ => ∃ (ls : List (List Nat)), vs = [.str (listsT ls)] ∧ okThing (.lists ls) ∧ (listsT ls).length ≤ 90000 ∧ ∀ v H' L, Ext H H' → Tr H' v (dThing (.lists ls)) L → Fresh H L → Q v H'
theorem ok_read_lists {P : Program} {w : World} {K : PySem.W.Frag} {mg : Str → Option Value} {base : Heap} (T : Txt K mg) (O_read_numbers : OkF P w K mg base CX0 2 "read_numbers" ["text"] (sp_read_numbers K)) : OkF P w K mg base CX0 3 "read_lists" ["text"] (sp_read_lists K) := by
  refine okF0 T.f_read_lists sc_read_lists (fun vs H Q E h => ?_) (fun _ _ _ _ _ _ us hl => match us, hl with | [_], _ => rfl) (fun cdv A outer s H vs Q E hr h => ?_)
  · obtain ⟨ls, rfl, ⟨hl, hn⟩, hlen, q⟩ := h
    rfl
  · have hu := hu_of hr
    have kt : KTok K := rfl
    refine ⟨_, (pss_cons (ps_if (pt_cmpR op_eq (pv 0) pe_str (nomark _)) (pss_one (ps_ret (pe_lst pa_nil))) pss_nil)
      (pss_one (ps_ret (pe_lc (own := [("part", 1)]) (g := (gName 1)) (tt := tYes) (by rfl) sc_read_lists.nd (pi_list (pn_split (pv 0) pe_str)) (blkOk_by (own := [("part", 1)]) (N := ["text", "part"]) (sc := defScope s_read_lists) (by decide +kernel)) (fun _ _ _ _ _ => (pg_name (i := 1) sc_read_lists.nd rfl (Or.inl rfl))) (fun _ _ _ _ _ => pts_nil) (fun _ _ _ _ _ => (pe_callF O_read_numbers (hr.mono (by first | decide | omega)) (by rfl) pass0 (pa_cons (pv 1) pa_nil))))))), ?_⟩
    obtain ⟨ls, rfl, ⟨hl, hn⟩, hlen, q⟩ := h
    try dsimp only [cxOf, Cx.nox, Cx.wish]
    refine start_as (σ := [some _, none]) rfl ?_
    have hM : Dom [] H := Dom.nil
    walk_at "go"
    refine w_ite (fun c => ?_) (fun c => ?_)
    · have e : ls = [] := by
        by_cases e : ls = []
        · exact e
        · exact absurd c (lists_ne e)
      subst e
      walk_at "go0"
      refine w_newLt .nil (by exact Nat.le_of_ble_eq_true rfl) fun p H1 e1 hp _ t1 => ?_
      exact q _ H1 _ e1 t1 (Fresh.nil.cons hp)
    · have e : ls ≠ [] := fun z => c (by rw [z]; rfl)
      walk_at "go"
      refine w_split kt hM (by decide +kernel) (by omega) fun p H1 e1 hM1 hd => ?_
      rw [split_lists e, List.map_map] at hd
      walk_at "go"
      refine i_listD hd fun a xs ea hL hA => ?_
      refine lt_L (K := K) (M := []) ls (PyData.str ∘ numsT) (fun ns => .list (dNums ns)) (by omega) hL hA (fun D i n x2 H2 hi e2 hD hx Ky k1 => ?_) (fun D H2 L e2 hD t2 f2 => ?_)
      · cases dp_str hx
        walk_at "go"
        refine ⟨rfl, ?_⟩
        walk_at "go"
        exact ⟨n, rfl, hn n (List.mem_of_getElem? hi), fun v H3 L e3 t3 f3 => k1 _ _ L e3 t3 f3⟩
      · exact q _ H2 L (e1.trans e2) t2 (f2.back e1)
def sp_tie_in (K : PySem.W.Frag) : Sp := fun vs H Q _ => ∃ (a b : Nat), vs = [.str (pz a b)] ∧ a < b ∧ b < 10 ^ 40 ∧ ∀ p H', Ext H H' → H p = none → H' p = some (.tup [.int a, .int b]) → Q (.ref p) H'
theorem ok_tie_in {P : Program} {w : World} {K : PySem.W.Frag} {mg : Str → Option Value} {base : Heap} (T : Txt K mg) (O_pair_in : OkF P w K mg base CX0 2 "pair_in" ["word"] (sp_pair_in K)) : OkF P w K mg base CX0 3 "tie_in" ["word"] (sp_tie_in K) := by
  refine okF0 T.f_tie_in sc_tie_in (fun vs H Q E h => ?_) (fun _ _ _ _ _ _ us hl => match us, hl with | [_], _ => rfl) (fun cdv A outer s H vs Q E hr h => ?_)
  · obtain ⟨a, b, rfl, ha, hb, q⟩ := h
    rfl
  · have hu := hu_of hr
    have kt : KTok K := rfl
    refine ⟨_, (pss_cons (ps_asg (pe_callF O_pair_in (hr.mono (by first | decide | omega)) (by rfl) pass0 (pa_cons (pv 0) pa_nil)) (pg_tup rfl (pgs_cons (pg_name (i := 1) sc_tie_in.nd rfl (Or.inl rfl)) (pgs_cons (pg_name (i := 2) sc_tie_in.nd rfl (Or.inl rfl)) pgs_nil))))
      (pss_cons (ps_if (pt_cmpR op_ge (pv 1) (pv 2) (nomark _)) (pss_one ps_never) pss_nil)
      (pss_one (ps_ret (pe_tup (pa_cons (pv 1) (pa_cons (pv 2) pa_nil))))))), ?_⟩
    obtain ⟨a, b, rfl, ha, hb, q⟩ := h
    try dsimp only [cxOf, Cx.nox, Cx.wish]
    refine start_as (σ := [some _, none, none]) rfl ?_
    walk_at "go"
    refine ⟨a, b, rfl, by omega, hb, fun p1 H1 e1 _ h1 => ?_⟩
    refine g_raw2 (.inl (.inl h1)) ?_
    walk_at "gy"
    refine w_newTR (by exact Nat.le_of_ble_eq_true rfl) fun p4 H4 hp4 e4 h4 => ?_
    exact q p4 H4 (by walk_at "ext") (fresh_back (by walk_at "ext") hp4) h4
def sp_read_ties (K : PySem.W.Frag) : Sp := fun vs H Q _ => ∃ (ts : List (Nat × Nat)), vs = [.str (tiesT ts)] ∧ okThing (.ties ts) ∧ ∀ v H' L, Ext H H' → Tr H' v (dThing (.ties ts)) L → Fresh H L → Q v H'
theorem ok_read_ties {P : Program} {w : World} {K : PySem.W.Frag} {mg : Str → Option Value} {base : Heap} (T : Txt K mg) (O_tie_in : OkF P w K mg base CX0 3 "tie_in" ["word"] (sp_tie_in K)) : OkF P w K mg base CX0 4 "read_ties" ["text"] (sp_read_ties K) := by
  refine okF0 T.f_read_ties sc_read_ties (fun vs H Q E h => ?_) (fun _ _ _ _ _ _ us hl => match us, hl with | [_], _ => rfl) (fun cdv A outer s H vs Q E hr h => ?_)
  · obtain ⟨ts, rfl, ⟨hl, hn⟩, q⟩ := h
    rfl
  · have hu := hu_of hr
    have kt : KTok K := rfl
    refine ⟨_, (pss_cons (ps_if (pt_cmpR op_eq (pv 0) pe_str (nomark _)) (pss_one (ps_ret (pe_lst pa_nil))) pss_nil)
      (pss_one (ps_ret (pe_lc (own := [("word", 1)]) (g := (gName 1)) (tt := tYes) (by rfl) sc_read_ties.nd (pi_list (pn_split (pv 0) pe_str)) (blkOk_by (own := [("word", 1)]) (N := ["text", "word"]) (sc := defScope s_read_ties) (by decide +kernel)) (fun _ _ _ _ _ => (pg_name (i := 1) sc_read_ties.nd rfl (Or.inl rfl))) (fun _ _ _ _ _ => pts_nil) (fun _ _ _ _ _ => (pe_callF O_tie_in (hr.mono (by first | decide | omega)) (by rfl) pass0 (pa_cons (pv 1) pa_nil))))))), ?_⟩
    obtain ⟨ts, rfl, ⟨hl, hn⟩, q⟩ := h
    try dsimp only [cxOf, Cx.nox, Cx.wish]
    refine start_as (σ := [some _, none]) rfl ?_
    have hM : Dom [] H := Dom.nil
    walk_at "go"
    refine w_ite (fun c => ?_) (fun c => ?_)
    · have e : ts = [] := by
        by_cases e : ts = []
        · exact e
        · exact absurd c (ties_ne e)
      subst e
      walk_at "go0"
      refine w_newLt .nil (by exact Nat.le_of_ble_eq_true rfl) fun p H1 e1 hp _ t1 => ?_
      exact q _ H1 _ e1 t1 (Fresh.nil.cons hp)
    · have e : ts ≠ [] := fun z => c (by rw [z]; rfl)
      walk_at "go"
      have := ties_lenT hl (okT_pair hn)
      refine w_split kt hM (by decide +kernel) (by omega) fun p H1 e1 hM1 hd => ?_
      rw [split_ties e, pzs, List.map_map] at hd
      walk_at "go"
      refine i_listD hd fun a xs ea hL hA => ?_
      refine lt_L (K := K) (M := []) ts (PyData.str ∘ fun t => pz t.1 t.2) dTie (by omega) hL hA (fun D i t x2 H2 hi e2 hD hx Ky k1 => ?_) (fun D H2 L e2 hD t2 f2 => ?_)
      · cases dp_str hx
        have ot := hn t (List.mem_of_getElem? hi)
        walk_at "go"
        refine ⟨rfl, ?_⟩
        walk_at "go"
        exact ⟨t.1, t.2, rfl, ot.1, ot.2, fun p3 H3 e3 _ h3 => k1 _ _ [] e3 (tr_pair h3) .nil⟩
      · exact q _ H2 L (e1.trans e2) t2 (f2.back e1)
def sp_even_pair (K : PySem.W.Frag) : Sp := fun vs H Q _ => ∃ (a b : Nat), vs = [.str (pz a b)] ∧ a ≤ b ∧ b < 10 ^ 40 ∧ ∀ p H', Ext H H' → H p = none → H' p = some (.tup [.int a, .int b]) → Q (.ref p) H'
theorem ok_even_pair {P : Program} {w : World} {K : PySem.W.Frag} {mg : Str → Option Value} {base : Heap} (T : Txt K mg) (O_pair_in : OkF P w K mg base CX0 2 "pair_in" ["word"] (sp_pair_in K)) : OkF P w K mg base CX0 3 "even_pair" ["word"] (sp_even_pair K) := by
  refine okF0 T.f_even_pair sc_even_pair (fun vs H Q E h => ?_) (fun _ _ _ _ _ _ us hl => match us, hl with | [_], _ => rfl) (fun cdv A outer s H vs Q E hr h => ?_)
  · obtain ⟨a, b, rfl, ha, hb, q⟩ := h
    rfl
  · have hu := hu_of hr
    have kt : KTok K := rfl
    refine ⟨_, (pss_cons (ps_asg (pe_callF O_pair_in (hr.mono (by first | decide | omega)) (by rfl) pass0 (pa_cons (pv 0) pa_nil)) (pg_tup rfl (pgs_cons (pg_name (i := 1) sc_even_pair.nd rfl (Or.inl rfl)) (pgs_cons (pg_name (i := 2) sc_even_pair.nd rfl (Or.inl rfl)) pgs_nil))))
      (pss_cons (ps_if (pt_cmpR op_gt (pv 1) (pv 2) (nomark _)) (pss_one ps_never) pss_nil)
      (pss_one (ps_ret (pe_tup (pa_cons (pv 1) (pa_cons (pv 2) pa_nil))))))), ?_⟩
    obtain ⟨a, b, rfl, ha, hb, q⟩ := h
    try dsimp only [cxOf, Cx.nox, Cx.wish]
    refine start_as (σ := [some _, none, none]) rfl ?_
    walk_at "go"
    refine ⟨a, b, rfl, by omega, hb, fun p1 H1 e1 _ h1 => ?_⟩
    refine g_raw2 (.inl (.inl h1)) ?_
    walk_at "gy"
    refine w_newTR (by exact Nat.le_of_ble_eq_true rfl) fun p4 H4 hp4 e4 h4 => ?_
    exact q p4 H4 (by walk_at "ext") (fresh_back (by walk_at "ext") hp4) h4
def sp_read_step (K : PySem.W.Frag) : Sp := fun vs H Q _ => ∃ (s : Stp), vs = [.str (stepT s)] ∧ okStp s ∧ ∀ v H' L, Ext H H' → Tr H' v (dStp s) L → Fresh H L → Q v H'
theorem ok_read_step {P : Program} {w : World} {K : PySem.W.Frag} {mg : Str → Option Value} {base : Heap} (T : Txt K mg) (O_tie_in : OkF P w K mg base CX0 3 "tie_in" ["word"] (sp_tie_in K)) (O_number_in : OkF P w K mg base CX0 1 "number_in" ["word"] (sp_number_in K)) (O_even_pair : OkF P w K mg base CX0 3 "even_pair" ["word"] (sp_even_pair K)) : OkF P w K mg base CX0 4 "read_step" ["text"] (sp_read_step K) := by
  refine okF0 T.f_read_step sc_read_step (fun vs H Q E h => ?_) (fun _ _ _ _ _ _ us hl => match us, hl with | [_], _ => rfl) (fun cdv A outer s H vs Q E hr h => ?_)
  · obtain ⟨s, rfl, ok, q⟩ := h
    rfl
  · have hu := hu_of hr
    have kt : KTok K := rfl
    refine ⟨_, (pss_cons (ps_set (i := 1) sc_read_step.nd rfl (Or.inl rfl) (pn_split (pv 0) pe_str))
      (pss_cons (ps_if (PW.pt (pw_and (pt_cmpR op_eq (pe_ix ix_list (pv 1) pe_int (fun _ _ => rfl)) pe_str (nomark _)) (pw_and1 (pt_cmpR op_eq (pe_callB cn_len (by rfl) T.m_len (by decide +kernel) (pa_cons (pv 1) pa_nil)) pe_int (nomark _))))) (pss_cons (ps_asg (pe_callF O_tie_in (hr.mono (by first | decide | omega)) (by rfl) pass0 (pa_cons (pe_ix ix_list (pv 1) pe_int (fun _ _ => rfl)) pa_nil)) (pg_tup rfl (pgs_cons (pg_name (i := 2) sc_read_step.nd rfl (Or.inl rfl)) (pgs_cons (pg_name (i := 3) sc_read_step.nd rfl (Or.inl rfl)) pgs_nil))))
      (pss_one (ps_ret (pe_tup (pa_cons pe_str (pa_cons (pv 2) (pa_cons (pv 3) pa_nil))))))) pss_nil)
      (pss_cons (ps_if (PW.pt (pw_and (pt_cmpR op_eq (pe_ix ix_list (pv 1) pe_int (fun _ _ => rfl)) pe_str (nomark _)) (pw_and1 (pt_cmpR op_gt (pe_callB cn_len (by rfl) T.m_len (by decide +kernel) (pa_cons (pv 1) pa_nil)) pe_int (nomark _))))) (pss_one (ps_ret (pe_tup (pa_cons pe_str (pa_cons (pe_callF O_number_in (hr.mono (by first | decide | omega)) (by rfl) pass0 (pa_cons (pe_ix ix_list (pv 1) pe_int (fun _ _ => rfl)) pa_nil)) (pa_cons (pe_lc (own := [("word", 4)]) (g := (gName 4)) (tt := tYes) (by rfl) sc_read_step.nd (pi_list (pe_slice sl_list (pv 1) (po_some pe_int) po_none)) (blkOk_by (own := [("word", 4)]) (N := ["text", "words", "a", "b", "word"]) (sc := defScope s_read_step) (by decide +kernel)) (fun _ _ _ _ _ => (pg_name (i := 4) sc_read_step.nd rfl (Or.inl rfl))) (fun _ _ _ _ _ => pts_nil) (fun _ _ _ _ _ => (pe_callF O_even_pair (hr.mono (by first | decide | omega)) (by rfl) pass0 (pa_cons (pv 4) pa_nil)))) pa_nil)))))) pss_nil)
      (pss_one ps_never)))), ?_⟩
    obtain ⟨s, rfl, ok, q⟩ := h
    try dsimp only [cxOf, Cx.nox, Cx.wish]
    refine start_as (σ := [some _, none, none, none, none]) rfl ?_
    have hM : Dom [] H := Dom.nil
    have hlen := step_lenT ok
    walk_at "go"
    refine w_split kt hM (by decide +kernel) (by omega) fun p H1 e1 hM1 hd => ?_
    cases s with
    | tie a b =>
      rw [split_tie] at hd
      have hd : Dp K (vis [] H1) (.ref p) (.list [.str "tie", .str (pz a b)]) := hd
      obtain ⟨h1, h2⟩ := ok
      walk_at "go"
      refine w_yes rfl ?_
      walk_at "gy"
      refine ⟨a, b, rfl, h1, h2, fun p2 H2 e2 hp2 hh2 => ?_⟩
      refine g_raw2 (.inl (.inl hh2)) ?_
      walk_at "go0"
      refine w_newTt (L := []) (.cons (L := []) (.str "tie") (.cons (L := []) (.int a) (.cons (L := []) (.int b) .nil fun _ z => nomatch z) fun _ z => nomatch z) fun _ z => nomatch z) (by exact Nat.le_of_ble_eq_true rfl) fun p3 H3 e3 hp3 _ t3 => ?_
      exact q _ H3 [] (by walk_at "ext") t3 .nil
    | place pl ps =>
      rw [split_place] at hd
      have hd : Dp K (vis [] H1) (.ref p) (.list (.str "place" :: .str (nz pl) :: (pzs ps).map .str)) := hd
      obtain ⟨hp, hl, hn⟩ := ok
      walk_at "go"
      refine w_no (by decide +kernel) ?_
      walk_at "gy"
      refine w_yes rfl ?_
      walk_at "gy"
      refine ⟨pl, rfl, hp, fun H2 e2 => ?_⟩
      have hd2 := dpx e2 hd
      walk_at "go"
      refine w_slL (hM1.ext e2) hd2 fun p3 H3 e3 hM3 h3 => ?_
      rw [show (2 : Int) = ((2 : Nat) : Int) from rfl, cutD_from] at h3
      have h3 : Dp K (vis [] H3) (.ref p3) (.list (ps.map fun t => .str (pz t.1 t.2))) := by
        have e : (pzs ps).map PyData.str = ps.map fun t => .str (pz t.1 t.2) := by rw [pzs, List.map_map]; rfl
        rw [← e]; exact h3
      walk_at "go"
      refine i_listD h3 fun a xs ea hL hA => ?_
      refine lt_L (K := K) (M := []) ps (fun t => .str (pz t.1 t.2)) dTie (by omega) hL hA (fun D i t x2 H4 hi e4 hD hx Ky k1 => ?_) (fun D H4 L e4 hD t4 f4 => ?_)
      · cases dp_str hx
        have ot := hn t (List.mem_of_getElem? hi)
        walk_at "go"
        refine ⟨rfl, ?_⟩
        walk_at "go"
        exact ⟨t.1, t.2, rfl, ot.1, ot.2, fun p5 H5 e5 _ h5 => k1 _ _ [] e5 (tr_pair h5) .nil⟩
      · walk_at "go0"
        refine w_newTt (L := L) (.cons (L := []) (.str "place") (.cons (L := []) (.int pl) (trAll_one t4) fun _ z => nomatch z) fun _ z => nomatch z) (by exact Nat.le_of_ble_eq_true rfl) fun p5 H5 e5 hp5 _ t5 => ?_
        exact q _ H5 L (by walk_at "ext") t5 (f4.back (by walk_at "ext"))
def sp_read_row (K : PySem.W.Frag) : Sp := fun vs H Q _ => ∃ (f : Nat) (ss : List Stp), vs = [.str (rowT f ss)] ∧ okThing (.row f ss) ∧ (rowT f ss).length ≤ 90000 ∧ ∀ v H' L, Ext H H' → Tr H' v (dThing (.row f ss)) L → Fresh H L → Q v H'
theorem ok_read_row {P : Program} {w : World} {K : PySem.W.Frag} {mg : Str → Option Value} {base : Heap} (T : Txt K mg) (O_number_in : OkF P w K mg base CX0 1 "number_in" ["word"] (sp_number_in K)) (O_read_step : OkF P w K mg base CX0 4 "read_step" ["text"] (sp_read_step K)) : OkF P w K mg base CX0 5 "read_row" ["text"] (sp_read_row K) := by
  refine okF0 T.f_read_row sc_read_row (fun vs H Q E h => ?_) (fun _ _ _ _ _ _ us hl => match us, hl with | [_], _ => rfl) (fun cdv A outer s H vs Q E hr h => ?_)
  · obtain ⟨f, ss, rfl, ⟨hf, hl, hn⟩, hlen, q⟩ := h
    rfl
  · have hu := hu_of hr
    have kt : KTok K := rfl
    refine ⟨_, (pss_cons (ps_set (i := 1) sc_read_row.nd rfl (Or.inl rfl) (pn_split (pv 0) pe_str))
      (pss_one (ps_ret (pe_tup (pa_cons (pe_callF O_number_in (hr.mono (by first | decide | omega)) (by rfl) pass0 (pa_cons (pe_ix ix_list (pv 1) pe_int (fun _ _ => rfl)) pa_nil)) (pa_cons (pe_lc (own := [("part", 2)]) (g := (gName 2)) (tt := tYes) (by rfl) sc_read_row.nd (pi_list (pe_slice sl_list (pv 1) (po_some pe_int) po_none)) (blkOk_by (own := [("part", 2)]) (N := ["text", "parts", "part"]) (sc := defScope s_read_row) (by decide +kernel)) (fun _ _ _ _ _ => (pg_name (i := 2) sc_read_row.nd rfl (Or.inl rfl))) (fun _ _ _ _ _ => pts_nil) (fun _ _ _ _ _ => (pe_callF O_read_step (hr.mono (by first | decide | omega)) (by rfl) pass0 (pa_cons (pv 2) pa_nil)))) pa_nil)))))), ?_⟩
    obtain ⟨f, ss, rfl, ⟨hf, hl, hn⟩, hlen, q⟩ := h
    try dsimp only [cxOf, Cx.nox, Cx.wish]
    refine start_as (σ := [some _, none, none]) rfl ?_
    have hM : Dom [] H := Dom.nil
    walk_at "go"
    refine w_split kt hM (by decide +kernel) (by omega) fun p H1 e1 hM1 hd => ?_
    rw [split_row, List.map_cons, List.map_map] at hd
    walk_at "go"
    refine ⟨f, rfl, hf, fun H2 e2 => ?_⟩
    have hd2 := dpx e2 hd
    walk_at "go"
    refine w_slL (hM1.ext e2) hd2 fun p3 H3 e3 hM3 h3 => ?_
    rw [show (1 : Int) = ((1 : Nat) : Int) from rfl, cutD_from] at h3
    have h3 : Dp K (vis [] H3) (.ref p3) (.list (ss.map (PyData.str ∘ stepT))) := h3
    walk_at "go"
    refine i_listD h3 fun a xs ea hL hA => ?_
    refine lt_L (K := K) (M := []) ss (PyData.str ∘ stepT) dStp (by omega) hL hA (fun D i s x2 H4 hi e4 hD hx Ky k1 => ?_) (fun D H4 L e4 hD t4 f4 => ?_)
    · cases dp_str hx
      walk_at "go"
      refine ⟨rfl, ?_⟩
      walk_at "go"
      exact ⟨s, rfl, hn s (List.mem_of_getElem? hi), fun v H5 L5 e5 t5 f5 => k1 _ _ L5 e5 t5 f5⟩
    · walk_at "go0"
      refine w_newTt (L := L) (.cons (L := []) (.int f) (trAll_one t4) fun _ z => nomatch z) (by exact Nat.le_of_ble_eq_true rfl) fun p5 H5 e5 hp5 _ t5 => ?_
      exact q _ H5 L (by walk_at "ext") t5 (f4.back (by walk_at "ext"))
def sp_read_paper (K : PySem.W.Frag) : Sp := fun vs H Q _ => ∃ (w : Str) (t : Thing), vs = [.str (paperT w t)] ∧ okPaper w t ∧ ∀ v H' L, Ext H H' → Tr H' v (dPaper w t) L → Fresh H L → Q v H'
theorem ok_read_paper {P : Program} {w : World} {K : PySem.W.Frag} {mg : Str → Option Value} {base : Heap} (T : Txt K mg) (O_read_numbers : OkF P w K mg base CX0 2 "read_numbers" ["text"] (sp_read_numbers K)) (O_read_lists : OkF P w K mg base CX0 3 "read_lists" ["text"] (sp_read_lists K)) (O_read_ties : OkF P w K mg base CX0 4 "read_ties" ["text"] (sp_read_ties K)) (O_read_row : OkF P w K mg base CX0 5 "read_row" ["text"] (sp_read_row K)) : OkF P w K mg base CX0 6 "read_paper" ["text"] (sp_read_paper K) := by
  refine okF0 T.f_read_paper sc_read_paper (fun vs H Q E h => ?_) (fun _ _ _ _ _ _ us hl => match us, hl with | [_], _ => rfl) (fun cdv A outer s H vs Q E hr h => ?_)
  · obtain ⟨w, t, rfl, ok, q⟩ := h
    rfl
  · have hu := hu_of hr
    have kt : KTok K := rfl
    refine ⟨_, (pss_cons (ps_asg (pn_part (pv 0) pe_str) (pg_tup rfl (pgs_cons (pg_name (i := 1) sc_read_paper.nd rfl (Or.inl rfl)) (pgs_cons (pg_name (i := 2) sc_read_paper.nd rfl (Or.inl rfl)) (pgs_cons (pg_name (i := 3) sc_read_paper.nd rfl (Or.inl rfl)) pgs_nil)))))
      (pss_cons (ps_if (pt_cmpR op_in_seq (pv 1) (pe_gC rfl T.c_NUMBERS) (by rfl)) (pss_one (ps_ret (pe_tup (pa_cons (pv 1) (pa_cons (pe_callF O_read_numbers (hr.mono (by first | decide | omega)) (by rfl) pass0 (pa_cons (pv 3) pa_nil)) pa_nil))))) pss_nil)
      (pss_cons (ps_if (pt_cmpR op_in_seq (pv 1) (pe_gC rfl T.c_LISTS) (by rfl)) (pss_one (ps_ret (pe_tup (pa_cons (pv 1) (pa_cons (pe_callF O_read_lists (hr.mono (by first | decide | omega)) (by rfl) pass0 (pa_cons (pv 3) pa_nil)) pa_nil))))) pss_nil)
      (pss_cons (ps_if (pt_cmpR op_eq (pv 1) pe_str (nomark _)) (pss_one (ps_ret (pe_tup (pa_cons (pv 1) (pa_cons (pe_callF O_read_ties (hr.mono (by first | decide | omega)) (by rfl) pass0 (pa_cons (pv 3) pa_nil)) pa_nil))))) pss_nil)
      (pss_cons (ps_if (pt_cmpR op_eq (pv 1) pe_str (nomark _)) (pss_one (ps_ret (pe_tup (pa_cons (pv 1) (pa_cons (pe_callF O_read_row (hr.mono (by first | decide | omega)) (by rfl) pass0 (pa_cons (pv 3) pa_nil)) pa_nil))))) pss_nil)
      (pss_one ps_never)))))), ?_⟩
    obtain ⟨w, t, rfl, ok, q⟩ := h
    try dsimp only [cxOf, Cx.nox, Cx.wish]
    refine start_as (σ := [some _, none, none, none]) rfl ?_
    have hM : Dom [] H := Dom.nil
    obtain ⟨lw, fw⟩ := word_len ok.word
    have lt := ok.len
    have lp : (paperT w t).length ≤ 90009 := by
      show (w ++ " " ++ thingT t).length ≤ _
      rw [len_app, len_app, one_blank]; omega
    walk_at "go"
    refine w_partZ kt hM (by decide +kernel) (by omega) fun p H1 e1 hM1 h1 => ?_
    rw [part_paper fw] at h1
    have h1 : Dp K (vis [] H1) (.ref p) (.tuple [.str w, .str " ", .str (thingT t)]) := h1
    refine g_tup3 h1 fun v1 v2 v3 d1 d2 d3 => ?_
    cases dp_str d1
    cases dp_str d2
    cases dp_str d3
    walk_at "go"
    refine w_inS ["side", "lot", "setting"] (.inr (numb_dp (M := []) T.u_NUMBERS)) ?_
    have fin : ∀ v H2 L, Ext H1 H2 → Tr H2 v (dThing t) L → Fresh H1 L → newT [.str w, v] H2 Q := fun v H2 L e2 t2 f2 =>
      w_newTt (L := L) (.cons (L := []) (.str w) (trAll_one t2) fun _ z => nomatch z) (by exact Nat.le_of_ble_eq_true rfl) fun p5 H5 e5 hp5 _ t5 => q _ H5 L (e1.trans (e2.trans e5)) t5 (f2.back e1)
    walk_at "go"
    cases t with
    | nums ns =>
      refine w_yes ok.word ?_
      walk_at "go"
      exact ⟨ns, rfl, ok.thing, fun v H2 L e2 t2 f2 => fin v H2 L e2 t2 f2⟩
    | lists ls =>
      refine w_no (word_in ok.word (by decide +kernel)) ?_
      walk_at "go"
      refine w_inS ["ways", "trees", "woods", "parting", "lots"] (.inr (list_dp (M := []) T.u_LISTS)) ?_
      walk_at "go"
      refine w_yes ok.word ?_
      walk_at "go"
      exact ⟨ls, rfl, ok.thing, lt, fun v H2 L e2 t2 f2 => fin v H2 L e2 t2 f2⟩
    | ties ts =>
      have hw : w = "ties" := ok.word
      subst hw
      refine w_no (by decide +kernel) ?_
      walk_at "go"
      refine w_inS ["ways", "trees", "woods", "parting", "lots"] (.inr (list_dp (M := []) T.u_LISTS)) ?_
      walk_at "go"
      refine w_no (by decide +kernel) ?_
      walk_at "go"
      refine w_yes rfl ?_
      walk_at "go"
      exact ⟨ts, rfl, ok.thing, fun v H2 L e2 t2 f2 => fin v H2 L e2 t2 f2⟩
    | row f ss =>
      have hw : w = "row" := ok.word
      subst hw
      refine w_no (by decide +kernel) ?_
      walk_at "go"
      refine w_inS ["ways", "trees", "woods", "parting", "lots"] (.inr (list_dp (M := []) T.u_LISTS)) ?_
      walk_at "go"
      refine w_no (by decide +kernel) ?_
      walk_at "go"
      refine w_no (by decide +kernel) ?_
      walk_at "go"
      refine w_yes rfl ?_
      walk_at "go"
      exact ⟨f, ss, rfl, ok.thing, lt, fun v H2 L e2 t2 f2 => fin v H2 L e2 t2 f2⟩
def sp__law_flat (K : PySem.W.Frag) : Sp := fun vs H Q _ => ∃ (x : V) (d : PyData) (M : List Addr), vs = [x] ∧ Dp K (vis M H) x d ∧ Shp 60 d ∧ szD d ≤ 50000 ∧ Dom M H ∧ ∀ p H', Ext H H' → Dom M H' → H p = none → Lst K M H' p (flatD d) → (∀ e ∈ flatD d, Leaf e ∧ Shp 60 e) → Q (.ref p) H'
theorem ok__law_flat {P : Program} {w : World} {K : PySem.W.Frag} {mg : Str → Option Value} {base : Heap} (T : Txt K mg) : OkF P w K mg base CX0 1 "_law_flat" ["_law_thing"] (sp__law_flat K) := by
  refine okF0 T.f__law_flat sc__law_flat (fun vs H Q E h => ?_) (fun _ _ _ _ _ _ us hl => match us, hl with | [_], _ => rfl) (fun cdv A outer s H vs Q E hr h => ?_)
  · obtain ⟨x, d, M, rfl, hd, hs, hz, hM, q⟩ := h
    rfl
  · have hu := hu_of hr
    have kt : KTok K := rfl
    refine ⟨_, (pss_cons (ps_set (i := 1) sc__law_flat.nd rfl (Or.inl rfl) (pe_lst (pa_cons (pv 0) pa_nil)))
      (pss_cons (ps_set (i := 2) sc__law_flat.nd rfl (Or.inl rfl) (pe_lst pa_nil))
      (pss_cons (ps_while PassesOwn.never (pt_cmpR (op_neD hr.units) (pv 1) (pe_lst pa_nil) (nomark _))
        (pss_cons (ps_set (i := 3) sc__law_flat.nd rfl (Or.inl rfl) (pe_bm0 PySem.F.plainAttrs_list PySem.F.slot_list_pop PySem.F.type_list_pop mt_pop (pv 1)))
      (pss_one (ps_if (pt_val (pe_callB call_isiT (by rfl) T.m_isinstance (by decide +kernel) (pa_cons (pv 3) (pa_cons (pe_tup (pa_cons (pe_bltn (v := .ty "list") (by rfl) T.m_list (by decide +kernel) rfl) (pa_cons (pe_bltn (v := .ty "tuple") (by rfl) T.m_tuple (by decide +kernel) rfl) pa_nil))) pa_nil)))) (pss_one (ps_set (i := 1) sc__law_flat.nd rfl (Or.inl rfl) (pe_op op_cat (pv 1) (pe_callTy cn_list (by rfl) T.m_list (by decide +kernel) (pa_cons (pv 3) pa_nil))))) (pss_one (ps_expr (pe_bm PySem.F.plainAttrs_list PySem.F.slot_list_append PySem.F.type_list_append mt_append (pv 2) (pa_cons (pv 3) pa_nil))))))))
      (pss_one (ps_ret (pv 2)))))), ?_⟩
    obtain ⟨x, d, M, rfl, hd, hs, hz, hM, q⟩ := h
    try dsimp only [cxOf, Cx.nox, Cx.wish]
    refine start_as (σ := [some _, none, none, none]) rfl ?_
    walk_at "go0"
    refine w_newR (by exact Nat.le_of_ble_eq_true rfl) fun p1 H1 hp1 e1 h1 => ?_
    walk_at "go0"
    refine w_newR (by exact Nat.le_of_ble_eq_true rfl) fun pF H2 hpF e2 h2 => ?_
    have hpF0 := fresh_back e1 hpF
    have n1F : p1 ≠ pF := fun z => by rw [z, hpF] at h1; cases h1
    have nFM : pF ∉ M := hM.new hpF0
    refine s_while (fun m σ' H' => ∃ (pL : Addr) (lv fv : List V) (ld fd : List PyData) (n : Nat) (u : Option V), σ' = [some x, some (.ref pL), some (.ref pF), u] ∧ Ext H H' ∧ H' pL = some (.lst lv) ∧ H pL = none ∧ H' pF = some (.lst fv) ∧ pL ≠ pF ∧
        DpAll K (vis (pL :: pF :: M) H') lv ld ∧ DpAll K (vis [] H') fv fd ∧ (∀ e ∈ fd, Leaf e ∧ Shp 60 e) ∧ (∀ e ∈ ld, Shp 60 e) ∧ szA ld = m ∧ m + fd.length ≤ szD d ∧ m ≤ n ∧ flatS n ld fd = flatD d) ?_ ?_
    · refine ⟨szD d, p1, [x], [], [d], [], szD d, none, rfl, e1.trans e2, e2 _ _ h1, hp1, h2, n1F, .cons ?_ .nil, .nil, (fun _ z => nomatch z), (fun e he => by rw [List.mem_singleton.mp he]; exact hs), by simp [szA], by simp, Nat.le_refl _, rfl⟩
      refine dp_ext ?_ hd
      have a : Ext (vis M H) (vis (p1 :: M) H1) := vis_hide e1 hp1
      have b : Ext (vis (p1 :: M) H1) (vis (pF :: p1 :: M) H2) := vis_hide e2 hpF
      exact (a.trans b).trans (vis_sub fun z hz => by simp only [List.mem_cons] at hz ⊢; rcases hz with h | h | h <;> simp [h])
    · rintro m σ' H3 ⟨pL, lv, fv, ld, fd, n, u, rfl, e3, hL, hL0, hF, nLF, hld, hfd, lf, sl, hm, hb, hn, hfl⟩
      have nLM : pL ∉ M := hM.new hL0
      walk_at "go0"
      refine w_newR (by exact Nat.le_of_ble_eq_true rfl) fun p4 H4 hp4 e4 h4 => ?_
      have hDom : Dom (pL :: pF :: M) H3 := ((hM.ext e3).cons (some_ne hF)).cons (some_ne hL)
      have n4 : p4 ∉ pF :: M := fun z => hDom.new hp4 (List.mem_cons_of_mem _ z)
      refine w_neNil (K := K) (M := pF :: M) (k := 61) (dp_hid (e4 _ _ hL) (by simp [nLF, nLM]) (dpAllx e4 hld)) (.lst (.inl (.inl (by rw [vis_out n4]; exact h4))) .nil) (.list sl) (by decide) ?_
      walk_at "go0"
      refine w_iteN (fun c => ?_) (fun c => ?_)
      · refine w_whN ?_
        obtain ⟨us, w, es, e, rfl, rfl, hus, hw⟩ := dpAll_snoc hld c
        have lus := dpAll_len hus
        walk_at "go0"
        refine ⟨ty_lst (e4 _ _ hL), ?_⟩
        refine w_popB (e4 _ _ hL) fun H5 b5 hL5 => ?_
        have e35 : Ext H H5 := ext_but (e3.trans e4) hL0 b5
        have hF5 := b5 _ _ (Ne.symm nLF) (e4 _ _ hF)
        have hw5 : Dp K (vis (pL :: pF :: M) H5) w e := dpb b5 List.mem_cons_self (dpx e4 hw)
        have hus5 : DpAll K (vis (pL :: pF :: M) H5) us es := dpAllb b5 List.mem_cons_self (dpAllx e4 hus)
        rw [szA_app] at hm
        have hme : szA [e] = szD e := by simp [szA]
        obtain ⟨n, rfl⟩ : ∃ n', n = n' + 1 := ⟨n - 1, by have := szD_pos e; omega⟩
        walk_at "go0"
        refine w_newTR (by exact Nat.le_of_ble_eq_true rfl) fun p6 H6 hp6 e6 h6 => ?_
        have hDom5 : Dom (pL :: pF :: M) H5 := ((hM.ext e35).cons (some_ne hF5)).cons (some_ne hL5)
        walk_at "go0"
        cases hk : kids e with
        | some ds =>
          have kz := kids_sz hk
          have kl := szA_len ds
          have el := szA_len es
          refine w_isiLT (M := pL :: pF :: M) (dpx e6 hw5) h6 true (kids_lt hk) ?_
          walk_at "go0"
          refine w_listD (M := pL :: pF :: M) (hDom5.ext e6) (kids_dp (dpx e6 hw5) hk) fun p7 H7 e7 hM7 hp7 h7 => ?_
          obtain ⟨n7, zs, hz7, hzs⟩ := h7
          have lzs := dpAll_len hzs
          refine w_catR (e7 _ _ (e6 _ _ hL5)) hz7 (by omega) fun p8 H8 hp8 e8 h8 => ?_
          have e68 := e6.trans (e7.trans e8)
          have n8F : p8 ≠ pF := fun z => hM7.new hp8 (by rw [z]; simp)
          walk_at "go0"
          refine ⟨szA (es ++ ds), ?_, p8, us ++ zs, fv, es ++ ds, fd, n, _, rfl, e35.trans e68, h8, fresh_back (e35.trans (e6.trans e7)) hp8, e68 _ _ hF5, n8F, ?_, dpAll_leaf (fun d m => (lf d m).1) hfd, lf, ?_, rfl, ?_, ?_, ?_⟩
          · rw [szA_app]; omega
          · have a : DpAll K (vis (pL :: pF :: M) H7) (us ++ zs) (es ++ ds) := dpAll_append (dpAllx (e6.trans e7) hus5) hzs
            refine dpAll_ext ?_ a
            exact Ext.trans (vis_hide e8 hp8) (vis_sub fun z hz => by simp only [List.mem_cons] at hz ⊢; rcases hz with h | h | h <;> simp [h])
          · intro x hx
            rcases List.mem_append.mp hx with hx | hx
            · exact sl x (List.mem_append_left _ hx)
            · exact kids_shp (sl e (List.mem_append_right _ List.mem_cons_self)) hk x hx
          · rw [szA_app]; omega
          · rw [szA_app]; omega
          · rw [← hfl, flatS_kids hk]
        | none =>
          have le := dp_kids hw5 hk
          have el := szA_len es
          refine w_isiLT (M := pL :: pF :: M) (dpx e6 hw5) h6 false (kids_no hk) ?_
          walk_at "go0"
          refine ⟨ty_lst (e6 _ _ hF5), ?_⟩
          walk_at "go0"
          have lfd := dpAll_len hfd
          have ep := szD_pos e
          refine w_appB (e6 _ _ hF5) (by omega) fun H7 b7 hF7 => ?_
          have e37 : Ext H H7 := ext_but (e35.trans e6) hpF0 b7
          have hL7 := b7 _ _ nLF (e6 _ _ hL5)
          refine ⟨szA es, by omega, pL, us, fv ++ [w], es, fd ++ [e], n, _, rfl, e37, hL7, hL0, hF7, nLF, ?_, ?_, ?_, fun x hx => sl x (List.mem_append_left _ hx), rfl, ?_, ?_, ?_⟩
          · exact dpAllb b7 (by simp) (dpAllx e6 hus5)
          · exact dpAll_append (dpAll_leaf (fun d m => (lf d m).1) hfd) (.cons (dp_leaf le hw5) .nil)
          · intro x hx
            rcases List.mem_append.mp hx with hx | hx
            · exact lf x hx
            · rw [List.mem_singleton.mp hx]; exact ⟨le, sl e (List.mem_append_right _ List.mem_cons_self)⟩
          · rw [List.length_append, List.length_singleton]; omega
          · omega
          · rw [← hfl, flatS_leaf hk]
      · subst c
        rw [flatS_nil] at hfl
        subst hfl
        walk_at "go0"
        exact q pF H4 (e3.trans e4) (hM.ext (e3.trans e4)) hpF0 ⟨nFM, fv, e4 _ _ hF, dpAll_leaf (fun d m => (lf d m).1) hfd⟩ lf
def sp__law_lists (K : PySem.W.Frag) : Sp := fun vs H Q _ => ∃ (x : V) (d : PyData) (L : List Addr), vs = [x] ∧ Tr H x d L ∧ Shp 60 d ∧ szD d ≤ 50000 ∧ ∀ p H' (Ls : List Addr), Ext H H' → H p = none → H' p = some (.lst (Ls.map V.ref)) → Ls.Nodup → (∀ a, a ∈ L ↔ a ∈ Ls) → Ls.length ≤ 50000 → Q (.ref p) H'
theorem ok__law_lists {P : Program} {w : World} {K : PySem.W.Frag} {mg : Str → Option Value} {base : Heap} (T : Txt K mg) : OkF P w K mg base CX0 1 "_law_lists" ["_law_thing"] (sp__law_lists K) := by
  refine okF0 T.f__law_lists sc__law_lists (fun vs H Q E h => ?_) (fun _ _ _ _ _ _ us hl => match us, hl with | [_], _ => rfl) (fun cdv A outer s H vs Q E hr h => ?_)
  · obtain ⟨x, d, L, rfl, hd, hs, hz, q⟩ := h
    rfl
  · have hu := hu_of hr
    have kt : KTok K := rfl
    refine ⟨_, (pss_cons (ps_set (i := 1) sc__law_lists.nd rfl (Or.inl rfl) (pe_lst pa_nil))
      (pss_cons (ps_set (i := 2) sc__law_lists.nd rfl (Or.inl rfl) (pe_lst (pa_cons (pv 0) pa_nil)))
      (pss_cons (ps_while PassesOwn.never (pt_cmpR (op_neD hr.units) (pv 2) (pe_lst pa_nil) (nomark _))
        (pss_cons (ps_set (i := 3) sc__law_lists.nd rfl (Or.inl rfl) (pe_bm0 PySem.F.plainAttrs_list PySem.F.slot_list_pop PySem.F.type_list_pop mt_pop (pv 2)))
      (pss_cutH (ps_if (pt_val (pe_callB call_isi (by rfl) T.m_isinstance (by decide +kernel) (pa_cons (pv 3) (pa_cons (pe_bltn (v := .ty "list") (by rfl) T.m_list (by decide +kernel) rfl) pa_nil)))) (pss_one (ps_expr (pe_bm PySem.F.plainAttrs_list PySem.F.slot_list_append PySem.F.type_list_append mt_append (pv 1) (pa_cons (pv 3) pa_nil)))) pss_nil)
      (pss_one (ps_if (pt_val (pe_callB call_isiT (by rfl) T.m_isinstance (by decide +kernel) (pa_cons (pv 3) (pa_cons (pe_tup (pa_cons (pe_bltn (v := .ty "list") (by rfl) T.m_list (by decide +kernel) rfl) (pa_cons (pe_bltn (v := .ty "tuple") (by rfl) T.m_tuple (by decide +kernel) rfl) pa_nil))) pa_nil)))) (pss_one (ps_set (i := 2) sc__law_lists.nd rfl (Or.inl rfl) (pe_op op_cat (pv 2) (pe_callTy cn_list (by rfl) T.m_list (by decide +kernel) (pa_cons (pv 3) pa_nil))))) pss_nil)))))
      (pss_one (ps_ret (pv 1)))))), ?_⟩
    obtain ⟨x, d, L, rfl, hd, hs, hz, q⟩ := h
    try dsimp only [cxOf, Cx.nox, Cx.wish]
    refine start_as (σ := [some _, none, none, none]) rfl ?_
    walk_at "go0"
    refine w_newR (by exact Nat.le_of_ble_eq_true rfl) fun pF H1 hpF0 e1 h1 => ?_
    walk_at "go0"
    refine w_newR (by exact Nat.le_of_ble_eq_true rfl) fun p2 H2 hp2 e2 h2 => ?_
    have n2F : p2 ≠ pF := fun z => by rw [z, h1] at hp2; cases hp2
    refine s_while (fun m σ' H' => ∃ (pL : Addr) (lv : List V) (ld : List PyData) (LL Fs : List Addr) (u : Option V), σ' = [some x, some (.ref pF), some (.ref pL), u] ∧ Ext H H' ∧ H' pL = some (.lst lv) ∧ H pL = none ∧ H' pF = some (.lst (Fs.map V.ref)) ∧ pL ≠ pF ∧
        TrAll H lv ld LL ∧ (Fs ++ LL).Nodup ∧ (∀ a, a ∈ L ↔ a ∈ Fs ++ LL) ∧ (∀ e ∈ ld, Shp 60 e) ∧ szA ld = m ∧ m + Fs.length ≤ szD d) ?_ ?_
    · exact ⟨szD d, p2, [x], [d], L, [], none, rfl, e1.trans e2, h2, fresh_back e1 hp2, e2 _ _ h1, n2F, trAll_one hd, tr_nodup hd, fun a => by simp, fun e he => by rw [List.mem_singleton.mp he]; exact hs, by simp [szA], by simp⟩
    · rintro m σ' H3 ⟨pL, lv, ld, LL, Fs, u, rfl, e3, hL, hL0, hF, nLF, hld, hnd, hset, sl, hm, hb⟩
      walk_at "go0"
      refine w_newR (by exact Nat.le_of_ble_eq_true rfl) fun p4 H4 hp4 e4 h4 => ?_
      have dl : DpAll K (vis [] H4) lv ld := trAll_dp (M := []) (fun _ z => nomatch z) (trAll_ext (e3.trans e4) hld) fun _ _ z => nomatch z
      refine w_neNil (K := K) (M := []) (k := 61) (.lst (.inl (.inl (by rw [vis_nil]; exact e4 _ _ hL))) dl) (.lst (.inl (.inl (by rw [vis_nil]; exact h4))) .nil) (.list sl) (by decide) ?_
      walk_at "go0"
      refine w_iteN (fun c => ?_) (fun c => ?_)
      · refine w_whN ?_
        obtain ⟨us, w, es, e, L1, L2, rfl, rfl, rfl, hus, hw, hdj⟩ := trAll_snoc hld c
        have lus := trAll_len hus
        walk_at "go0"
        refine ⟨ty_lst (e4 _ _ hL), ?_⟩
        refine w_popB (e4 _ _ hL) fun H5 b5 hL5 => ?_
        have e35 : Ext H H5 := ext_but (e3.trans e4) hL0 b5
        have hF5 := b5 _ _ (Ne.symm nLF) (e4 _ _ hF)
        rw [szA_app] at hm
        have hme : szA [e] = szD e := by simp [szA]
        have ep := szD_pos e
        have el := szA_len es
        have hw5 : Dp K (vis [] H5) w e := tr_dp0 (tr_ext e35 hw)
        walk_at "go0"
        refine s_cut (fun σ' H' => ∃ Fs' : List Addr, σ' = [some x, some (.ref pF), some (.ref pL), some w] ∧ Ext H H' ∧ H' pL = some (.lst us) ∧ H' pF = some (.lst (Fs'.map V.ref)) ∧ ((isL1 e = true ∧ ∃ a, w = .ref a ∧ Fs' = Fs ++ [a]) ∨ (isL1 e = false ∧ Fs' = Fs))) ?_ ?_
        · walk_at "go0"
          cases hl : isL1 e with
          | true =>
            refine w_isiL1 hw5 true hl ?_
            walk_at "go0"
            refine ⟨ty_lst hF5, ?_⟩
            walk_at "go0"
            refine w_appB hF5 (by rw [List.length_map]; omega) fun H6 b6 hF6 => ?_
            walk_at "go0"
            obtain ⟨a, rfl⟩ : ∃ a, w = .ref a := by
              cases hw with
              | lst h r n => exact ⟨_, rfl⟩
              | _ => cases hl
            refine ⟨Fs ++ [a], rfl, ext_but e35 hpF0 b6, b6 _ _ nLF hL5, ?_, .inl ⟨rfl, a, rfl, rfl⟩⟩
            rw [List.map_append]; exact hF6
          | false =>
            refine w_isiL1 hw5 false hl ?_
            walk_at "go0"
            exact ⟨Fs, rfl, e35, hL5, hF5, .inr ⟨rfl, rfl⟩⟩
        · rintro σ' H6 ⟨Fs', rfl, e6, hL6, hF6, hFs⟩
          have hw6 : Dp K (vis [] H6) w e := tr_dp0 (tr_ext e6 hw)
          have lF : Fs'.length ≤ Fs.length + 1 := by
            rcases hFs with ⟨_, a, _, rfl⟩ | ⟨_, rfl⟩ <;> simp
          walk_at "go0"
          refine w_newTR (by exact Nat.le_of_ble_eq_true rfl) fun p7 H7 hp7 e7 h7 => ?_
          walk_at "go0"
          cases hk : kids e with
          | some ds =>
            have kz := kids_sz hk
            have kl := szA_len ds
            refine w_isiLT (M := []) (dpx e7 hw6) h7 true (kids_lt hk) ?_
            walk_at "go0"
            obtain ⟨ks, L3, hks, hraw, hL2⟩ : ∃ ks L3, TrAll H ks ds L3 ∧ (∃ a, w = .ref a ∧ (SqL K H7 a ks ∨ SqT K H7 a ks)) ∧ ((isL1 e = true ∧ ∃ a, w = .ref a ∧ L2 = a :: L3) ∨ (isL1 e = false ∧ L2 = L3)) := by
              cases hw with
              | lst h r n => cases hk; exact ⟨_, _, r, ⟨_, rfl, .inl (.inl (.inl (e7 _ _ (e6 _ _ h))))⟩, .inl ⟨rfl, _, rfl, rfl⟩⟩
              | tup h r => cases hk; exact ⟨_, _, r, ⟨_, rfl, .inr (.inl (.inl (e7 _ _ (e6 _ _ h))))⟩, .inr ⟨rfl, rfl⟩⟩
              | _ => cases hk
            have lks := trAll_len hks
            obtain ⟨a0, rfl, hsq⟩ := hraw
            refine ⟨a0, ks, rfl, hsq, fun l8 hl8 => ?_⟩
            refine w_catR (ext_new hl8 _ _ (e7 _ _ hL6)) upd_same (by omega) fun p9 H9 hp9 e9 h9 => ?_
            have e89 : Ext H6 H9 := (e7.trans (ext_new hl8)).trans e9
            have n9F : p9 ≠ pF := fun z => by
              rw [z, ext_new hl8 _ _ (e7 _ _ hF6)] at hp9; cases hp9
            walk_at "go0"
            have hsub : ∀ a ∈ L3, a ∈ L2 := by
              rcases hL2 with ⟨_, a, _, rfl⟩ | ⟨_, rfl⟩
              · exact fun b m => List.mem_cons_of_mem _ m
              · exact fun b m => m
            have hpm : (Fs' ++ (L1 ++ L3)).Perm (Fs ++ (L1 ++ L2)) := by
              rcases hL2 with ⟨t, a, ea, rfl⟩ | ⟨t, rfl⟩
              · rcases hFs with ⟨_, b, eb, rfl⟩ | ⟨t', _⟩
                · rw [ea] at eb
                  cases eb
                  rw [List.append_assoc]
                  refine List.Perm.append_left _ ?_
                  exact (List.perm_middle (a := a) (l₁ := L1) (l₂ := L3)).symm
                · rw [t] at t'; cases t'
              · rcases hFs with ⟨t', _⟩ | ⟨_, rfl⟩
                · rw [t] at t'; cases t'
                · exact List.Perm.refl _
            refine ⟨szA (es ++ ds), ?_, p9, us ++ ks, es ++ ds, L1 ++ L3, Fs', _, rfl, e6.trans e89, h9, fresh_back (e6.trans (e7.trans (ext_new hl8))) hp9, e89 _ _ hF6, n9F, trAll_append hks hus fun a m z => hdj a m (hsub a z), hpm.nodup_iff.mpr hnd, fun a => (hset a).trans hpm.mem_iff.symm, ?_, rfl, ?_⟩
            · rw [szA_app]; omega
            · intro y hy
              rcases List.mem_append.mp hy with hy | hy
              · exact sl y (List.mem_append_left _ hy)
              · exact kids_shp (sl e (List.mem_append_right _ List.mem_cons_self)) hk y hy
            · rw [szA_app]; omega
          | none =>
            have e2' := tr_leaf hw hk
            subst e2'
            have hl : isL1 e = false := by cases e <;> first | rfl | cases hk
            have eF : Fs' = Fs := by
              rcases hFs with ⟨t, _⟩ | ⟨_, r⟩
              · rw [hl] at t; cases t
              · exact r
            subst eF
            refine w_isiLT (M := []) (dpx e7 hw6) h7 false (kids_no hk) ?_
            walk_at "go0"
            rw [List.append_nil] at hnd hset
            exact ⟨szA es, by omega, pL, us, es, L1, Fs', _, rfl, e6.trans e7, e7 _ _ hL6, hL0, e7 _ _ hF6, nLF, hus, hnd, hset, fun y hy => sl y (List.mem_append_left _ hy), rfl, by omega⟩
      · subst c
        cases hld
        walk_at "go0"
        rw [List.append_nil] at hnd hset
        exact q pF H4 Fs (e3.trans e4) hpF0 (e4 _ _ hF) hnd hset (by omega)
def sp__law_whole (K : PySem.W.Frag) : Sp := fun vs H Q _ => ∃ i : Int, vs = [.int i] ∧ Q (.bl true) H
theorem ok__law_whole {P : Program} {w : World} {K : PySem.W.Frag} {mg : Str → Option Value} {base : Heap} (T : Txt K mg) : OkF P w K mg base CX0 1 "_law_whole" ["_law_number"] (sp__law_whole K) := by
  refine okF0 T.f__law_whole sc__law_whole (fun vs H Q E h => ?_) (fun _ _ _ _ _ _ us hl => match us, hl with | [_], _ => rfl) (fun cdv A outer s H vs Q E hr h => ?_)
  · obtain ⟨i, rfl, q⟩ := h
    rfl
  · have hu := hu_of hr
    have kt : KTok K := rfl
    refine ⟨_, (pss_one (ps_ret (pe_and (pe_callB call_isi (by rfl) T.m_isinstance (by decide +kernel) (pa_cons (pv 0) (pa_cons (pe_bltn (v := .ty "int") (by rfl) T.m_int (by decide +kernel) rfl) pa_nil))) (pe_one (pe_not (pe_callB call_isi (by rfl) T.m_isinstance (by decide +kernel) (pa_cons (pv 0) (pa_cons (pe_bltn (v := .ty "bool") (by rfl) T.m_bool (by decide +kernel) rfl) pa_nil)))))))), ?_⟩
    obtain ⟨i, rfl, q⟩ := h
    try dsimp only [cxOf, Cx.nox, Cx.wish]
    refine start_as (σ := [some _]) rfl ?_
    walk_at "go"
    exact q
def spr__law_kinds (K : PySem.W.Frag) (n : Nat) : Sp := fun vs H Q _ => ∃ (x y : V) (d : PyData) (M : List Addr), vs = [x, y] ∧ Dp K (vis M H) x d ∧ Dp K (vis M H) y d ∧ isIS d = true ∧ szD d ≤ 50000 ∧ d.depth < n ∧ Dom M H ∧ ∀ H', Ext H H' → Q (.bl true) H'
def sp__law_kinds (K : PySem.W.Frag) : Sp := spr__law_kinds K 7
theorem no__law_kinds {K : PySem.W.Frag} {vs : List V} {H : Hp} {Q : VK} {E : XK} (h : spr__law_kinds K 0 vs H Q E) : False := by
  obtain ⟨_, _, _, _, _, _, _, _, _, h, _⟩ := h
  exact absurd h (Nat.not_lt_zero _)
theorem step__law_kinds {P : Program} {w : World} {K : PySem.W.Frag} {mg : Str → Option Value} {base : Heap} (T : Txt K mg) (O__law_whole : OkF P w K mg base CX0 1 "_law_whole" ["_law_number"] (sp__law_whole K)) {j n : Nat} (hj : 2 ≤ j) (O__law_kinds : OkF P w K mg base CX0 j "_law_kinds" ["_law_told", "_law_paper_here"] (spr__law_kinds K n)) : OkF P w K mg base CX0 (j + 1) "_law_kinds" ["_law_told", "_law_paper_here"] (spr__law_kinds K (n + 1)) := by
  refine okF0 T.f__law_kinds sc__law_kinds (fun vs H Q E h => ?_) (fun _ _ _ _ _ _ us hl => match us, hl with | [_, _], _ => rfl) (fun cdv A outer s H vs Q E hr h => ?_)
  · obtain ⟨x, y, d, M, rfl, hx, hy, his, hz, hdp, hM, q⟩ := h
    rfl
  · have hu := hu_of hr
    have kt : KTok K := rfl
    refine ⟨_, (pss_cons (ps_if (pt_val (pe_callB call_isiT (by rfl) T.m_isinstance (by decide +kernel) (pa_cons (pv 1) (pa_cons (pe_tup (pa_cons (pe_bltn (v := .ty "list") (by rfl) T.m_list (by decide +kernel) rfl) (pa_cons (pe_bltn (v := .ty "tuple") (by rfl) T.m_tuple (by decide +kernel) rfl) pa_nil))) pa_nil)))) (pss_cons (ps_if (PW.pt (pw_or (pt_cmpR op_ne (pe_callB call_isi (by rfl) T.m_isinstance (by decide +kernel) (pa_cons (pv 0) (pa_cons (pe_bltn (v := .ty "list") (by rfl) T.m_list (by decide +kernel) rfl) pa_nil))) (pe_callB call_isi (by rfl) T.m_isinstance (by decide +kernel) (pa_cons (pv 1) (pa_cons (pe_bltn (v := .ty "list") (by rfl) T.m_list (by decide +kernel) rfl) pa_nil))) (nomark _)) (pw_or1 (pt_not (pt_val (pe_callB call_isiT (by rfl) T.m_isinstance (by decide +kernel) (pa_cons (pv 0) (pa_cons (pe_tup (pa_cons (pe_bltn (v := .ty "list") (by rfl) T.m_list (by decide +kernel) rfl) (pa_cons (pe_bltn (v := .ty "tuple") (by rfl) T.m_tuple (by decide +kernel) rfl) pa_nil))) pa_nil)))))))) (pss_one (ps_ret pe_bl)) pss_nil)
      (pss_one (ps_ret (pe_cmpR (op_eqD hr.units) (pe_lc (own := [("_law_one", 2), ("_law_other", 3)]) (g := (gTup _ 2 (gCons (gName 2) (gCons (gName 3) gNil)))) (by rfl) sc__law_kinds.nd (RZ.pi_zipA (by rfl) T.m_zip (pa_cons (pv 0) (pa_cons (pv 1) pa_nil))) (blkOk_by (own := [("_law_one", 2), ("_law_other", 3)]) (N := ["_law_told", "_law_paper_here", "_law_one", "_law_other"]) (sc := defScope s__law_kinds) (by decide +kernel)) (fun _ _ _ _ _ => (pg_tup rfl (pgs_cons (pg_name (i := 2) sc__law_kinds.nd rfl (Or.inl rfl)) (pgs_cons (pg_name (i := 3) sc__law_kinds.nd rfl (Or.inl rfl)) pgs_nil)))) (fun _ _ _ _ _ => (pts_one (pt_not (pt_val (pe_callF O__law_kinds (hr.mono (by first | decide | omega)) (by rfl) pass0 (pa_cons (pv 2) (pa_cons (pv 3) pa_nil))))))) (fun _ _ _ _ _ => pe_int)) (pe_lst pa_nil) (nomark _))))) pss_nil)
      (pss_one (ps_ret (pe_and (pe_cmpR op_eq (pe_callB call_isi (by rfl) T.m_isinstance (by decide +kernel) (pa_cons (pv 0) (pa_cons (pe_bltn (v := .ty "str") (by rfl) T.m_str (by decide +kernel) rfl) pa_nil))) (pe_callB call_isi (by rfl) T.m_isinstance (by decide +kernel) (pa_cons (pv 1) (pa_cons (pe_bltn (v := .ty "str") (by rfl) T.m_str (by decide +kernel) rfl) pa_nil))) (nomark _)) (pe_one (pe_or (pe_callB call_isi (by rfl) T.m_isinstance (by decide +kernel) (pa_cons (pv 1) (pa_cons (pe_bltn (v := .ty "str") (by rfl) T.m_str (by decide +kernel) rfl) pa_nil))) (pe_one (pe_callF O__law_whole (hr.mono (by first | decide | omega)) (by rfl) pass0 (pa_cons (pv 0) pa_nil))))))))), ?_⟩
    obtain ⟨x, y, d, M, rfl, hx, hy, his, hz, hdp, hM, q⟩ := h
    try dsimp only [cxOf, Cx.nox, Cx.wish]
    refine start_as (σ := [some _, some _, none, none]) rfl ?_
    walk_at "go0"
    refine w_newTR (by exact Nat.le_of_ble_eq_true rfl) fun p1 H1 hp1 e1 h1 => ?_
    have hM1 := hM.ext e1
    walk_at "go0"
    have hx1 := dpx e1 hx
    have hy1 := dpx e1 hy
    cases hk : kids d with
    | some ds =>
      refine w_isiLT hy1 h1 true (kids_lt hk) ?_
      walk_at "go0"
      refine w_isiL1 hx1 (isL1 d) rfl ?_
      walk_at "go0"
      refine w_isiL1 hy1 (isL1 d) rfl ?_
      walk_at "go0"
      refine w_neB ?_
      walk_at "go0"
      refine w_noN rfl ?_
      walk_at "go0"
      refine w_newTR (by exact Nat.le_of_ble_eq_true rfl) fun p2 H2 hp2 e2 h2 => ?_
      have hM2 := hM1.ext e2
      have hx2 := dpx e2 hx1
      have hy2 := dpx e2 hy1
      walk_at "go0"
      refine w_isiLT hx2 h2 true (kids_lt hk) ?_
      walk_at "go0"
      have kz := kids_sz hk
      have kl := szA_len ds
      refine i_zipA ?_
      walk_at "go0"
      have turn : ∀ (D : Addr) (z : PyData) (T : Addr) (x' y' : V) (H3 : Hp), z ∈ ds → Ext H2 H3 → Dom (D :: M) H3 → SqT K H3 T [x', y'] → Dp K (vis (D :: M) H3) x' z → Dp K (vis (D :: M) H3) y' z → ∀ (Q' : VK), (∀ H', Ext H3 H' → Q' (.bl true) H') → spr__law_kinds K n [x', y'] H3 Q' E0 := by
        intro D z T x' y' H3 hz' e3 dm hT dx dy Q' k
        have sz' : szD z ≤ 50000 := by
          have key : ∀ l : List PyData, z ∈ l → szD z ≤ szA l := by
            intro l
            induction l with
            | nil => intro h; cases h
            | cons a r ih =>
              intro h
              rw [szA]
              rcases List.mem_cons.mp h with rfl | h
              · omega
              · have := ih h; omega
          have := key ds hz'
          omega
        exact ⟨x', y', z, D :: M, rfl, dx, dy, isIS_kids his hk z hz', sz', depth_kids hk hdp z hz', dm, k⟩
      have fin : ∀ (D : Addr) (H' : Hp), Ext H2 H' → Dom M H' → Lst K M H' D [] → newL [] H' fun y H2 => rEqD K (.ref D) y H2 Q := by
        intro D H' e3 hM3 h3
        refine w_newL kt hM3 .nil (by exact Nat.le_of_ble_eq_true rfl) fun p4 H4 e4 hM4 h4 => ?_
        exact w_eqSame (k := 1) (d := .list []) (dpx e4 h3.dp) h4 (.list fun _ h => nomatch h) (by decide) (q _ (by walk_at "ext"))
      cases d with
      | list l =>
        cases hk
        obtain ⟨a, xs, rfl, sx, ax⟩ := dp_list hx2
        obtain ⟨b, ys, rfl, sy, ay⟩ := dp_list hy2
        refine ⟨a, b, xs, ys, rfl, .inl ⟨sqlv sx, sqlv sy, ?_⟩⟩
        have lx := dpAll_len ax
        have ly := dpAll_len ay
        refine lz_none (K := K) (M := M) (ds := ds) (walk_zip (K := K) (a := a) (b := b) (by rw [lx, ly, Nat.min_self])) (fun G e => ⟨sql_ext e (sqlv sx), sql_ext e (sqlv sy)⟩) (by omega) hM2 ax ay (fun D z T x' y' H3 hz' e3 dm hT dx dy Ky Kn k => ?_) (fun D H' e3 hM3 h3 => ?_)
        · refine g_raw2 hT ?_
          refine ⟨rfl, ?_⟩
          walk_at "go0"
          refine turn D z T x' y' H3 hz' e3 dm hT dx dy _ fun H' e' => ?_
          walk_at "go0"
          exact k H' e'
        · walk_at "go0"
          exact fin D H' e3 hM3 h3
      | tuple l =>
        cases hk
        obtain ⟨a, xs, rfl, sx, ax⟩ := dp_tup hx2
        obtain ⟨b, ys, rfl, sy, ay⟩ := dp_tup hy2
        refine ⟨a, b, xs, ys, rfl, .inr ⟨sqtv sx, sqtv sy, ?_⟩⟩
        have lx := dpAll_len ax
        have ly := dpAll_len ay
        refine lz_none (K := K) (M := M) (ds := ds) (walk_zT (K := K) (a := a) (b := b) lx ly) (fun G e => ⟨sqt_ext e (sqtv sx), sqt_ext e (sqtv sy)⟩) (by omega) hM2 ax ay (fun D z T x' y' H3 hz' e3 dm hT dx dy Ky Kn k => ?_) (fun D H' e3 hM3 h3 => ?_)
        · refine g_raw2 hT ?_
          refine ⟨rfl, ?_⟩
          walk_at "go0"
          refine turn D z T x' y' H3 hz' e3 dm hT dx dy _ fun H' e' => ?_
          walk_at "go0"
          exact k H' e'
        · walk_at "go0"
          exact fin D H' e3 hM3 h3
      | _ => cases hk
    | none =>
      refine w_isiLT hy1 h1 false (kids_no hk) ?_
      walk_at "go0"
      refine w_isiS1 hx1 (isS1 d) rfl ?_
      walk_at "go0"
      refine w_isiS1 hy1 (isS1 d) rfl ?_
      walk_at "go0"
      refine w_eqB ?_
      walk_at "go0"
      refine w_yes rfl ?_
      walk_at "go0"
      refine w_isiS1 hy1 (isS1 d) rfl ?_
      walk_at "go0"
      cases d with
      | str z =>
        show if true = true then _ else _
        walk_at "go0"
        exact q _ e1
      | int i =>
        show if false = true then _ else _
        cases dp_int hx1
        walk_at "go0"
        exact ⟨i, rfl, q _ e1⟩
      | none => cases his
      | bool _ => cases his
      | dict _ => cases his
      | list _ => cases hk
      | tuple _ => cases hk
theorem ok__law_kinds {P : Program} {w : World} {K : PySem.W.Frag} {mg : Str → Option Value} {base : Heap} (T : Txt K mg) (O__law_whole : OkF P w K mg base CX0 1 "_law_whole" ["_law_number"] (sp__law_whole K)) : OkF P w K mg base CX0 9 "_law_kinds" ["_law_told", "_law_paper_here"] (sp__law_kinds K) := by
  have b : OkF P w K mg base CX0 2 "_law_kinds" ["_law_told", "_law_paper_here"] (spr__law_kinds K 0) := okF0 T.f__law_kinds sc__law_kinds (fun vs H Q E h => (no__law_kinds h).elim) (fun _ _ _ _ _ _ us hl => match us, hl with | [_, _], _ => rfl) (fun cdv A outer s H vs Q E hr h => (no__law_kinds h).elim)
  exact (step__law_kinds T O__law_whole (by decide) (step__law_kinds T O__law_whole (by decide) (step__law_kinds T O__law_whole (by decide) (step__law_kinds T O__law_whole (by decide) (step__law_kinds T O__law_whole (by decide) (step__law_kinds T O__law_whole (by decide) (step__law_kinds T O__law_whole (by decide) b)))))))
def sp__law_shown_anew (K : PySem.W.Frag) : Sp := fun vs H Q _ => ∃ (x : V) (w : Str) (t : Thing) (L : List Addr), vs = [x] ∧ Tr H x (dPaper w t) L ∧ okPaper w t ∧ ∀ H', ButS L H H' → Q (.bl true) H'
theorem word_ne2 : True := trivial
theorem ok__law_shown_anew {P : Program} {w : World} {K : PySem.W.Frag} {mg : Str → Option Value} {base : Heap} (T : Txt K mg) (O_show_paper : OkF P w K mg base CX0 4 "show_paper" ["paper"] (sp_show_paper K)) (O__law_paper_text : OkF P w K mg base CX0 3 "_law_paper_text" ["_law_paper_here"] (sp__law_paper_text K)) : OkF P w K mg base CX0 5 "_law_shown_anew" ["_law_paper_here"] (sp__law_shown_anew K) := by
  refine okF0 T.f__law_shown_anew sc__law_shown_anew (fun vs H Q E h => ?_) (fun _ _ _ _ _ _ us hl => match us, hl with | [_], _ => rfl) (fun cdv A outer s H vs Q E hr h => ?_)
  · obtain ⟨x, w, t, L, rfl, ht, ok, q⟩ := h
    rfl
  · have hu := hu_of hr
    have kt : KTok K := rfl
    refine ⟨_, (pss_cons (ps_set (i := 1) sc__law_shown_anew.nd rfl (Or.inl rfl) (pe_ix ix_tup (pv 0) pe_int (fun _ _ => rfl)))
      (pss_cutH (ps_if (pt_cmpR op_eq (pe_ix ix_tup (pv 0) pe_int (fun _ _ => rfl)) pe_str (nomark _)) (pss_one (ps_set (i := 1) sc__law_shown_anew.nd rfl (Or.inl rfl) (pe_ix ix_tup (pe_ix ix_tup (pv 0) pe_int (fun _ _ => rfl)) pe_int (fun _ _ => rfl)))) pss_nil)
      (pss_cons (ps_set (i := 2) sc__law_shown_anew.nd rfl (Or.inl rfl) (pe_disp (pps_cons pe_str (pe_tup (pa_cons pe_str (pa_cons pe_int (pa_cons pe_int pa_nil)))) (pps_cons pe_str (pe_tup (pa_cons pe_int (pa_cons pe_int pa_nil))) pps_nil)) (by rfl) (by rfl) (fun z => by cases z) (by decide)))
      (pss_cons (ps_for PassesOwn.never rfl (pi_list (pe_lst (pa_cons pe_str (pa_cons pe_str (pa_cons pe_str pa_nil))))) (pg_name (i := 3) sc__law_shown_anew.nd rfl (Or.inl rfl))
        (pss_one (ps_dput hu (pv 2) (pv 3) pe_int rfl)))
      (pss_cutH (ps_if (pt_cmpR (op_neD hr.units) (pv 1) (pe_lst pa_nil) (nomark _)) (pss_one (ps_expr (pe_bm0 PySem.F.plainAttrs_list PySem.F.slot_list_pop PySem.F.type_list_pop mt_pop (pv 1)))) (pss_one (ps_expr (pe_bm PySem.F.plainAttrs_list PySem.F.slot_list_append PySem.F.type_list_append mt_append (pv 1) (pa_cons (pe_dget2 hu (pv 2) (pe_ix ix_tup (pv 0) pe_int (fun _ _ => rfl)) (pe_lst (pa_cons pe_int pa_nil)) ⟨by rfl, by rfl, by rfl, by rfl⟩) pa_nil)))))
      (pss_one (ps_ret (pe_cmpR op_eq (pe_callF O_show_paper (hr.mono (by first | decide | omega)) (by rfl) pass0 (pa_cons (pv 0) pa_nil)) (pe_callF O__law_paper_text (hr.mono (by first | decide | omega)) (by rfl) pass0 (pa_cons (pv 0) pa_nil)) (nomark _))))))))), ?_⟩
    obtain ⟨x, w, t, L, rfl, ht, ok, q⟩ := h
    try dsimp only [cxOf, Cx.nox, Cx.wish]
    refine start_as (σ := [some _, none, none, none]) rfl ?_
    obtain ⟨px, a, us, La, rfl, hra, ha, hus, nLa, haL⟩ := row_at ht
    obtain ⟨v2, hpx, hv⟩ := id hra
    walk_at "go0"
    refine w_ixTR hpx rfl ?_
    refine s_cut (fun σ' H' => σ' = [some (.ref px), some (.ref a), none, none] ∧ H' = H) ?_ ?_
    · walk_at "go0"
      refine w_ixTR hpx rfl ?_
      walk_at "go0"
      cases t with
      | row f ss =>
        obtain ⟨b, rfl, hb⟩ := hv
        refine w_yes ok.word ?_
        walk_at "go0"
        refine w_ixTR hpx rfl ?_
        walk_at "go0"
        refine w_ixTR hb rfl ?_
        exact ⟨rfl, rfl⟩
      | nums ns =>
        cases hv
        refine w_no (word_ne ok.word (by decide +kernel)) ?_
        walk_at "go0"
        exact ⟨rfl, rfl⟩
      | lists ls =>
        cases hv
        refine w_no (word_ne ok.word (by decide +kernel)) ?_
        walk_at "go0"
        exact ⟨rfl, rfl⟩
      | ties ts =>
        cases hv
        refine w_no (fun z => by rw [show w = "ties" from ok.word] at z; revert z; decide +kernel) ?_
        walk_at "go0"
        exact ⟨rfl, rfl⟩
    · rintro σ' H0 ⟨rfl, rfl⟩
      walk_at "go0"
      refine w_disp fun pd hpd => ?_
      refine w_pairs ?_
      walk_at "go0"
      refine w_newTR (by exact Nat.le_of_ble_eq_true rfl) fun p1 H1 hp1 e1 h1 => ?_
      refine w_pairs ?_
      walk_at "go0"
      refine w_newTR (by exact Nat.le_of_ble_eq_true rfl) fun p2 H2 hp2 e2 h2 => ?_
      refine w_pairs0 ?_
      have hd2 : H2 pd = some (.dK []) := e2 _ _ (e1 _ _ upd_same)
      have n1 : p1 ≠ pd := fun z => by rw [z, upd_same] at hp1; cases hp1
      have n2 : p2 ≠ pd := fun z => by rw [z, e1 _ _ upd_same] at hp2; cases hp2
      refine ⟨hd2, [(.inr "row", .ref p1), (.inr "ties", .ref p2)], rfl, by exact Nat.le_of_ble_eq_true rfl, ?_⟩
      obtain ⟨H3, hH3⟩ : ∃ H3, H3 = upd H2 pd (.dK (mergeK [] [(.inr "row", .ref p1), (.inr "ties", .ref p2)])) := ⟨_, rfl⟩
      rw [← hH3]
      have e3 : Ext H0 H3 := by rw [hH3]; exact ext_mut (Ext.trans (ext_new hpd) (e1.trans e2)) hpd
      have h13 : H3 p1 = some (.tup [.str "tie", .int 0, .int 1]) := by rw [hH3, upd_ne n1]; exact e2 _ _ h1
      have h23 : H3 p2 = some (.tup [.int 0, .int 1]) := by rw [hH3, upd_ne n2]; exact h2
      have hd3 : H3 pd = some (.dK (mergeK [] [(.inr "row", .ref p1), (.inr "ties", .ref p2)])) := by rw [hH3]; exact upd_same
      walk_at "go0"
      have hM3 : Dom [pd] H3 := Dom.nil.cons (some_ne hd3)
      refine w_newL kt hM3 (dpAll_strs ["side", "lot", "setting"]) (by exact Nat.le_of_ble_eq_true rfl) fun pw H4 e4 hM4 h4 => ?_
      refine i_listD h4 fun b xs eb hL hA => ?_
      refine f_L (K := K) (M := [pd]) (["side", "lot", "setting"] : List Str) PyData.str hL hA (fun i σ' H' => (∃ u, σ' = [some (.ref px), some (.ref a), some (.ref pd), u]) ∧ But pd H4 H' ∧ ∃ kvs, H' pd = some (.dK kvs) ∧ kvs = put5 (mergeK [] [(.inr "row", .ref p1), (.inr "ties", .ref p2)]) ((["side", "lot", "setting"] : List Str).take i) ∧ kvs.length ≤ 2 + i) ?_ ?_ ?_ ?_
      · exact ⟨⟨_, rfl⟩, fun _ _ _ h => h, _, e4 _ _ hd3, rfl, by show _ ≤ 2; exact Nat.le_of_ble_eq_true rfl⟩
      · rintro i σ' H' _ ⟨_, b, _⟩
        exact vis_but b List.mem_cons_self
      · rintro i z y σ' H' hi ⟨⟨u, rfl⟩, b5, kvs, hk, ek, lk⟩ hy
        cases dp_str hy
        walk_at "go0"
        refine s_dput ?_
        walk_at "go0"
        refine ⟨pd, _, rfl, .inl ⟨kvs, .inr z, hk, rfl, szl (by have := (List.getElem?_eq_some_iff.mp hi).1; simp at this; omega), rfl⟩, ⟨_, rfl⟩, ?_, _, upd_same, ?_, ?_⟩
        · exact b5.trans fun c o n hc => by rw [upd_ne n]; exact hc
        · rw [put5_more hi, ek]
        · exact Nat.le_trans putK_len (by omega)
      · rintro σ' H5 ⟨⟨u, rfl⟩, b5, kvs, hk, ek, lk⟩
        have e5 : Ext H0 H5 := ext_but (e3.trans e4) hpd b5
        have h15 : H5 p1 = some (.tup [.str "tie", .int 0, .int 1]) := b5 _ _ n1 (e4 _ _ h13)
        have h25 : H5 p2 = some (.tup [.int 0, .int 1]) := b5 _ _ n2 (e4 _ _ h23)
        have hdr : Dp K (vis [] H5) (.ref a) (.list (rowsD t)) := .lst (.inl (.inl (by rw [vis_nil]; exact e5 _ _ ha))) (trAll_dp (M := []) (fun _ z => nomatch z) (trAll_ext e5 hus) fun _ _ z => nomatch z)
        have fin : ∀ (H7 : Hp) (t' : Thing) (us' : List V) (L' : List Addr), okPaper w t' → RowAt H0 w t' px a → Ext H0 H7 → ∀ H8, But a H7 H8 → H8 a = some (.lst us') → TrAll H7 us' (rowsD t') L' → a ∉ L' → Dp K (vis [] H8) (.ref px) (dPaper w t') ∧ ButS L H0 H8 := by
          intro H7 t' us' L' ok' hr' e7 H8 b8 ha8 ht' na
          have up : ∀ b xs, H7 b = some (.tup xs) → H8 b = some (.tup xs) := fun b xs hb => b8 b _ (fun z => by rw [z, e7 _ _ ha] at hb; cases hb) hb
          refine ⟨row_dp (row_up hr' fun b xs hb => up b xs (e7 _ _ hb)) ha8 (trAll_but (S := [a]) (b8.butS List.mem_cons_self) (fun b hb xs z => by rw [List.mem_singleton.mp hb, e7 _ _ ha] at z; cases z) ht' fun b m z => na (List.mem_singleton.mp z ▸ m)), ?_⟩
          exact e7.butS.trans (b8.butS haL)
        refine s_cut (fun σ' H' => (∃ u v z, σ' = [some (.ref px), u, v, z]) ∧ ∃ t', okPaper w t' ∧ Dp K (vis [] H') (.ref px) (dPaper w t') ∧ ButS L H0 H') ?_ ?_
        · walk_at "go0"
          refine w_newR (by exact Nat.le_of_ble_eq_true rfl) fun p6 H6 hp6 e6 h6 => ?_
          refine w_neNil (K := K) (M := []) (k := 5) (dpx e6 hdr) (.lst (.inl (.inl (by rw [vis_nil]; exact h6))) .nil) (shp_rows t) (by decide) ?_
          walk_at "go0"
          refine w_iteN (fun c => ?_) (fun c => ?_)
          · obtain ⟨us', u', es, e, L1, L2, rfl, hes, rfl, hus', hu', hdj⟩ := trAll_snoc hus c
            walk_at "go0"
            refine ⟨ty_lst (e6 _ _ (e5 _ _ ha)), ?_⟩
            refine w_popB (e6 _ _ (e5 _ _ ha)) fun H7 b7 ha7 => ?_
            have hpr : rowsD (popT t) = es := by rw [pop_rows, hes, List.dropLast_concat]
            obtain ⟨f1, f2⟩ := fin H6 (popT t) us' L1 (pop_ok ok) (pop_at hra) (e5.trans e6) H7 b7 ha7 (by rw [hpr]; exact trAll_ext (e5.trans e6) hus') fun m => nLa (List.mem_append_left _ m)
            walk_at "go0"
            exact ⟨⟨_, _, _, rfl⟩, popT t, pop_ok ok, f1, f2⟩
          · rw [c] at hus
            cases hus
            walk_at "go0"
            refine ⟨ty_lst (e6 _ _ (e5 _ _ ha)), ?_⟩
            walk_at "go0"
            refine w_dget2 ?_
            walk_at "go0"
            refine ⟨pd, rfl, .inl ⟨kvs, .inl (e6 _ _ hk)⟩, ?_⟩
            walk_at "go0"
            refine w_ixTR (e6 _ _ (e5 _ _ hpx)) rfl ?_
            walk_at "go0"
            refine w_newR (by exact Nat.le_of_ble_eq_true rfl) fun p7 H7 hp7 e7 h7 => ?_
            have e07 := e5.trans (e6.trans e7)
            obtain ⟨o, ho, L', hL', nL'⟩ : ∃ o, valV kvs (.inr w) = o ∧ ∃ L', TrAll H7 [o.getD (.ref p7)] (rowsD (addT t)) L' ∧ a ∉ L' := by
              have np : p7 ≠ a := fun z => by rw [z, e6 _ _ (e5 _ _ ha)] at hp7; cases hp7
              subst ek
              cases t with
              | nums ns =>
                refine ⟨some (.int 5), ?_, [], trAll_one (.int 5), fun z => nomatch z⟩
                have hw : w ∈ (["side", "lot", "setting"] : List Str) := ok.word
                simp only [List.mem_cons, List.not_mem_nil, or_false] at hw
                rcases hw with rfl | rfl | rfl <;> rfl
              | lists ls =>
                refine ⟨none, ?_, [p7], trAll_one (.lst h7 (.cons (L := []) (.int 3) .nil fun _ z => nomatch z) fun z => nomatch z), fun z => np (List.mem_singleton.mp z).symm⟩
                have hw : w ∈ (["ways", "trees", "woods", "parting", "lots"] : List Str) := ok.word
                simp only [List.mem_cons, List.not_mem_nil, or_false] at hw
                rcases hw with rfl | rfl | rfl | rfl | rfl <;> rfl
              | ties ts =>
                have hw : w = "ties" := ok.word
                subst hw
                exact ⟨some (.ref p2), rfl, [], trAll_one (.tup (e7 _ _ (e6 _ _ h25)) (.cons (L := []) (.int 0) (.cons (L := []) (.int 1) .nil fun _ z => nomatch z) fun _ z => nomatch z)), fun z => nomatch z⟩
              | row f ss =>
                have hw : w = "row" := ok.word
                subst hw
                exact ⟨some (.ref p1), rfl, [], trAll_one (.tup (e7 _ _ (e6 _ _ h15)) (.cons (L := []) (.str "tie") (.cons (L := []) (.int 0) (.cons (L := []) (.int 1) .nil fun _ z => nomatch z) fun _ z => nomatch z) fun _ z => nomatch z)), fun z => nomatch z⟩
            refine ⟨o, .inl ⟨kvs, .inr w, .inl (e7 _ _ (e6 _ _ hk)), rfl, ho.symm⟩, ?_⟩
            walk_at "go0"
            refine w_appB (xs := []) (e07 _ _ ha) (by decide) fun H8 b8 ha8 => ?_
            obtain ⟨f1, f2⟩ := fin H7 (addT t) _ L' (add_ok ok) (add_at hra) e07 H8 b8 ha8 hL' nL'
            walk_at "go0"
            exact ⟨⟨_, _, _, rfl⟩, addT t, add_ok ok, f1, f2⟩
        · rintro σ' H6 ⟨⟨u, v, z, rfl⟩, t', ok', hd', hb'⟩
          have hM6 : Dom [] H6 := Dom.nil
          walk_at "go0"
          refine ⟨.ref px, w, t', [], rfl, hd', ok', hM6, fun H7 e7 hM7 => ?_⟩
          walk_at "go0"
          refine ⟨.ref px, w, t', [], rfl, dpx e7 hd', ok', hM7, fun H8 e8 hM8 => ?_⟩
          walk_at "go0"
          rw [decide_eq_true rfl]
          exact q H8 (hb'.trans (e7.trans e8).butS)
theorem side0 : ("side 0" : Str) = paperT "side" (.nums [0]) := by decide +kernel
theorem ok0 : okPaper "side" (.nums [0]) := .of (show ("side" : Str) ∈ (["side", "lot", "setting"] : List Str) by decide +kernel) ⟨by decide, by decide +kernel⟩ trivial
theorem depth_paper {w : Str} {t : Thing} (h : okWord w t) : (dPaper w t).depth < 7 := Nat.lt_succ_of_le (shp_paper h).2
def sp__law_kept (K : PySem.W.Frag) : Sp := fun vs H Q _ => ∃ (x : V) (w : Str) (t : Thing) (L : List Addr), vs = [x] ∧ Tr H x (dPaper w t) L ∧ okPaper w t ∧ ∀ H', ButS L H H' → Q (.bl true) H'
theorem ok__law_kept {P : Program} {w : World} {K : PySem.W.Frag} {mg : Str → Option Value} {base : Heap} (T : Txt K mg) (O__law_paper_text : OkF P w K mg base CX0 3 "_law_paper_text" ["_law_paper_here"] (sp__law_paper_text K)) (O__law_flat : OkF P w K mg base CX0 1 "_law_flat" ["_law_thing"] (sp__law_flat K)) (O_show_paper : OkF P w K mg base CX0 4 "show_paper" ["paper"] (sp_show_paper K)) (O_read_paper : OkF P w K mg base CX0 6 "read_paper" ["text"] (sp_read_paper K)) (O__law_kinds : OkF P w K mg base CX0 9 "_law_kinds" ["_law_told", "_law_paper_here"] (sp__law_kinds K)) (O__law_lists : OkF P w K mg base CX0 1 "_law_lists" ["_law_thing"] (sp__law_lists K)) (O__law_shown_anew : OkF P w K mg base CX0 5 "_law_shown_anew" ["_law_paper_here"] (sp__law_shown_anew K)) : OkF P w K mg base CX0 10 "_law_kept" ["_law_paper_here"] (sp__law_kept K) := by
  refine okF0 T.f__law_kept sc__law_kept (fun vs H Q E h => ?_) (fun _ _ _ _ _ _ us hl => match us, hl with | [_], _ => rfl) (fun cdv A outer s H vs Q E hr h => ?_)
  · obtain ⟨x, w, t, L, rfl, ht, ok, q⟩ := h
    rfl
  · have hu := hu_of hr
    have kt : KTok K := rfl
    refine ⟨_, (pss_cons (ps_set (i := 1) sc__law_kept.nd rfl (Or.inl rfl) (pe_callF O__law_paper_text (hr.mono (by first | decide | omega)) (by rfl) pass0 (pa_cons (pv 0) pa_nil)))
      (pss_cons (ps_set (i := 2) sc__law_kept.nd rfl (Or.inl rfl) (pe_callF O__law_flat (hr.mono (by first | decide | omega)) (by rfl) pass0 (pa_cons (pv 0) pa_nil)))
      (pss_cons (ps_for PassesOwn.never rfl (pi_range1 (by rfl) T.m_range (pa_cons pe_int pa_nil)) (pg_name (i := 3) sc__law_kept.nd rfl (Or.inl rfl))
        (pss_cons (ps_set (i := 4) sc__law_kept.nd rfl (Or.inl rfl) (pe_callF O_show_paper (hr.mono (by first | decide | omega)) (by rfl) pass0 (pa_cons (pv 0) pa_nil)))
      (pss_cons (ps_set (i := 5) sc__law_kept.nd rfl (Or.inl rfl) (pe_callF O_read_paper (hr.mono (by first | decide | omega)) (by rfl) pass0 (pa_cons (pv 1) pa_nil)))
      (pss_cons (ps_if (PW.pt (pw_or (pt_not (pt_val (pe_callB call_isi (by rfl) T.m_isinstance (by decide +kernel) (pa_cons (pv 4) (pa_cons (pe_bltn (v := .ty "str") (by rfl) T.m_str (by decide +kernel) rfl) pa_nil))))) (pw_or (pt_cmpR op_ne (pv 4) (pv 1) (nomark _)) (pw_or (pt_cmpR (op_neD hr.units) (pv 5) (pv 0) (nomark _)) (pw_or1 (pt_not (pt_val (pe_callF O__law_kinds (hr.mono (by first | decide | omega)) (by rfl) pass0 (pa_cons (pv 5) (pa_cons (pv 0) pa_nil)))))))))) (pss_one (ps_ret pe_bl)) pss_nil)
      (pss_cons (ps_for PassesOwn.never rfl (pi_list (pe_callF O__law_lists (hr.mono (by first | decide | omega)) (by rfl) pass0 (pa_cons (pe_callF O_read_paper (hr.mono (by first | decide | omega)) (by rfl) pass0 (pa_cons (pv 1) pa_nil)) pa_nil))) (pg_name (i := 6) sc__law_kept.nd rfl (Or.inl rfl))
        (pss_one (ps_expr (pe_bm0 PySem.F.plainAttrs_list PySem.F.slot_list_clear PySem.F.type_list_clear mt_clear (pv 6)))))
      (pss_cons (ps_if (PW.pt (pw_or (pt_cmpR (op_neD hr.units) (pe_callF O__law_flat (hr.mono (by first | decide | omega)) (by rfl) pass0 (pa_cons (pv 0) pa_nil)) (pv 2) (nomark _)) (pw_or (pt_cmpR (op_neD hr.units) (pv 5) (pv 0) (nomark _)) (pw_or1 (pt_cmpR (op_neD hr.units) (pe_callF O_read_paper (hr.mono (by first | decide | omega)) (by rfl) pass0 (pa_cons pe_str pa_nil)) (pe_tup (pa_cons pe_str (pa_cons (pe_lst (pa_cons pe_int pa_nil)) pa_nil))) (nomark _)))))) (pss_one (ps_ret pe_bl)) pss_nil)
      (pss_cons (ps_set (i := 7) sc__law_kept.nd rfl (Or.inl rfl) (pe_callF O__law_lists (hr.mono (by first | decide | omega)) (by rfl) pass0 (pa_cons (pv 5) pa_nil)))
      (pss_cons (ps_setLc (i := 8) (own := [("_law_one", 6)]) (g := (gName 6)) (tt := tYes) (by rfl) sc__law_kept.nd rfl rfl (sw_true rfl rfl rfl (by decide +kernel)) (pi_list (pv 7)) (blkOk_by (own := [("_law_one", 6)]) (N := ["_law_paper_here", "_law_due", "_law_flat_here", "_law_turn", "_law_text", "_law_told", "_law_one", "_law_lists_here", "_law_many", "_law_number"]) (sc := defScope s__law_kept) (by decide +kernel)) (fun _ _ _ _ _ => (pg_name (i := 6) sc__law_kept.nd rfl (Or.inl rfl))) (fun _ _ _ _ _ => pts_nil) (fun _ _ _ _ _ => (pe_callB (id := "len") (r := rLenQ K) cn_len (by rfl) T.m_len (by decide +kernel) (pa_cons (pv 6) pa_nil))))
      (pss_cons (ps_for PassesOwn.never rfl (pi_list (pv 7)) (pg_name (i := 6) sc__law_kept.nd rfl (Or.inl rfl))
        (pss_one (ps_expr (pe_bm PySem.F.plainAttrs_list PySem.F.slot_list_append PySem.F.type_list_append mt_append (pv 6) (pa_cons pe_int pa_nil)))))
      (pss_one (ps_if (pt_cmpR (op_neD hr.units) (pe_lc (own := [("_law_one", 6)]) (g := (gName 6)) (tt := tYes) (by rfl) sc__law_kept.nd (pi_list (pv 7)) (blkOk_by (own := [("_law_one", 6)]) (N := ["_law_paper_here", "_law_due", "_law_flat_here", "_law_turn", "_law_text", "_law_told", "_law_one", "_law_lists_here", "_law_many", "_law_number"]) (sc := defScope s__law_kept) (by decide +kernel)) (fun _ _ _ _ _ => (pg_name (i := 6) sc__law_kept.nd rfl (Or.inl rfl))) (fun _ _ _ _ _ => pts_nil) (fun _ _ _ _ _ => (pe_callB (id := "len") (r := rLenQ K) cn_len (by rfl) T.m_len (by decide +kernel) (pa_cons (pv 6) pa_nil)))) (pe_lc (own := [("_law_number", 9)]) (g := (gName 9)) (tt := tYes) (by rfl) sc__law_kept.nd (pi_list (pv 8)) (blkOk_by (own := [("_law_number", 9)]) (N := ["_law_paper_here", "_law_due", "_law_flat_here", "_law_turn", "_law_text", "_law_told", "_law_one", "_law_lists_here", "_law_many", "_law_number"]) (sc := defScope s__law_kept) (by decide +kernel)) (fun _ _ _ _ _ => (pg_name (i := 9) sc__law_kept.nd rfl (Or.inl rfl))) (fun _ _ _ _ _ => pts_nil) (fun _ _ _ _ _ => (pe_op op_add (pv 9) pe_int))) (nomark _)) (pss_one (ps_ret pe_bl)) pss_nil)))))))))))
      (pss_one (ps_ret (pe_callF O__law_shown_anew (hr.mono (by first | decide | omega)) (by rfl) pass0 (pa_cons (pv 0) pa_nil))))))), ?_⟩
    obtain ⟨x, w, t, L, rfl, ht, ok, q⟩ := h
    try dsimp only [cxOf, Cx.nox, Cx.wish]
    refine start_as (σ := [some _, none, none, none, none, none, none, none, none, none]) rfl ?_
    have hM : Dom [] H := Dom.nil
    have sh : Shp 6 (dPaper w t) := shp_paper ok.word
    have sh60 := sh.mono (show 6 ≤ 60 by decide)
    have szp : szD (dPaper w t) ≤ 50000 := sz_paper ok.thing
    walk_at "go0"
    refine ⟨x, w, t, [], rfl, tr_dp0 ht, ok, hM, fun H1 e1 hM1 => ?_⟩
    walk_at "go0"
    refine ⟨x, dPaper w t, [], rfl, tr_dp0 (tr_ext e1 ht), sh60, szp, hM1, fun pf H2 e2 hM2 _ hf2 hleaf => ?_⟩
    have shF : Shp 61 (.list (flatD (dPaper w t))) := .list fun d m => (hleaf d m).2
    walk_at "go0"
    refine i_rng1D (by omega) (by omega) ?_
    refine f_R (fun j σ' H' => Ext H2 H' ∧ ∃ u3 u4 u5 u6 u7 u8 u9, σ' = [some x, some (.str (paperT w t)), some (.ref pf), u3, u4, u5, u6, u7, u8, u9]) ⟨Ext.refl _, _, _, _, _, _, _, _, rfl⟩ ?_ ?_
    · rintro j σ' H3 hj ⟨e3, u3, u4, u5, u6, u7, u8, u9, rfl⟩
      have ht3 : Tr H3 x (dPaper w t) L := tr_ext (e1.trans (e2.trans e3)) ht
      walk_at "go0"
      refine ⟨x, w, t, [], rfl, tr_dp0 ht3, ok, Dom.nil, fun H4 e4 _ => ?_⟩
      walk_at "go0"
      refine ⟨w, t, rfl, ok, fun v5 H5 L5 e5 t5 f5 => ?_⟩
      have ht5 := tr_ext (e4.trans e5) ht3
      walk_at "go0"
      refine w_noN rfl ?_
      walk_at "go0"
      refine w_neSame (tr_dp0 t5) (tr_dp0 ht5) sh (by decide) ?_
      walk_at "go0"
      refine ⟨v5, x, dPaper w t, [], rfl, tr_dp0 t5, tr_dp0 ht5, is_paper w t, szp, depth_paper ok.word, Dom.nil, fun H6 e6 => ?_⟩
      walk_at "go0"
      refine ⟨w, t, rfl, ok, fun v7 H7 L7 e7 t7 f7 => ?_⟩
      walk_at "go0"
      refine ⟨v7, dPaper w t, L7, rfl, t7, sh60, szp, fun p8 H8 Ls e8 hp8 h8 nd8 st8 ln8 => ?_⟩
      walk_at "go0"
      refine ⟨p8, rfl, ⟨_, .inl (.inl h8)⟩, ?_⟩
      have ls8 : ∀ a ∈ Ls, ∃ xs, H8 a = some (.lst xs) := fun a m => tr_lists (tr_ext e8 t7) a ((st8 a).mpr m)
      have fr8 : ∀ a ∈ Ls, H6 a = none := fun a m => f7 a ((st8 a).mpr m)
      have np8 : p8 ∉ Ls := fun m => by
        obtain ⟨xs, e⟩ := tr_lists t7 p8 ((st8 p8).mpr m)
        rw [hp8] at e; cases e
      refine fr_L (K := K) (fun _ => []) h8 np8 nd8 ls8 (fun σ' => ∃ u6 u7 u8 u9, σ' = [some x, some (.str (paperT w t)), some (.ref pf), some (.int (0 + (j : Int))), some (.str (paperT w t)), some v5, u6, u7, u8, u9]) ⟨_, _, _, _, rfl⟩ ?_ ?_
      · rintro a xs σ' H9 ha ⟨u6, u7, u8, u9, rfl⟩ _ hax N kN
        walk_at "go0"
        refine ⟨ty_lst hax, ?_⟩
        refine w_clrB hax fun H10 b10 h10 => ?_
        walk_at "go0"
        exact kN _ _ ⟨_, _, _, _, rfl⟩ b10 h10
      · rintro σ' H9 ⟨u6, u7, u8, u9, rfl⟩ b9 _
        have e69 : Ext H6 H9 := ext_butS (e7.trans e8) fr8 b9
        have ht9 := tr_ext (e6.trans e69) ht5
        have t9 := tr_ext (e6.trans e69) t5
        have e29 : Ext H2 H9 := e3.trans (e4.trans (e5.trans (e6.trans e69)))
        walk_at "go0"
        refine ⟨x, dPaper w t, [], rfl, tr_dp0 ht9, sh60, szp, Dom.nil, fun pg H10 e10 hM10 _ hg _ => ?_⟩
        walk_at "go0"
        refine w_neSame hg.dp (hf2.ext (e29.trans e10)).dp shF (by decide) ?_
        walk_at "go0"
        refine w_neSame (tr_dp0 (tr_ext e10 t9)) (tr_dp0 (tr_ext e10 ht9)) sh (by decide) ?_
        walk_at "go0"
        rw [side0]
        refine ⟨"side", .nums [0], rfl, ok0, fun v11 H11 L11 e11 t11 f11 => ?_⟩
        have hM11 : Dom [] H11 := Dom.nil
        walk_at "go"
        rename_i p12 H12 e12 _ h12 p13 H13 e13 _ h13
        refine w_neSame (d := dPaper "side" (.nums [0])) (tr_dp0 (tr_ext (e12.trans e13) t11)) h13 (shp_paper ok0.word) (by decide) ?_
        have e1013 := e11.trans (e12.trans e13)
        have t13 := tr_ext (e10.trans e1013) t9
        walk_at "go0"
        refine ⟨v5, dPaper w t, L5, rfl, t13, sh60, szp, fun p14 H14 Ks e14 hp14 h14 nd14 st14 ln14 => ?_⟩
        have fr14 : ∀ a ∈ Ks, H4 a = none := fun a m => f5 a ((st14 a).mpr m)
        have ls14 : ∀ a ∈ Ks, ∃ xs, H14 a = some (.lst xs) := fun a m => tr_lists (tr_ext e14 t13) a ((st14 a).mpr m)
        have np14 : p14 ∉ Ks := fun m => by
          obtain ⟨xs, e⟩ := tr_lists t13 p14 ((st14 p14).mpr m)
          rw [hp14] at e; cases e
        walk_at "go0"
        refine ⟨p14, rfl, ⟨_, .inl (.inl h14)⟩, ?_⟩
        refine lr_L (K := K) (M := []) (fun a => .int (lenAt H14 a)) (by omega) Dom.nil h14 (fun a G ha eG Ky k1 => ?_) (fun _ => .int _) fun p15 H15 e15 hp15 hM15 h15 => ?_
        · obtain ⟨xs, hxs⟩ := ls14 a ha
          refine ⟨rfl, ?_⟩
          walk_at "go0"
          refine w_lenR (.inl (.inl (eG _ _ hxs))) ?_
          rw [← lenAt_of hxs]
          exact k1 _ _ [] (Ext.refl _) (.int _)
        · walk_at "go0"
          refine ⟨p14, rfl, ⟨_, .inl (.inl (e15 _ _ h14))⟩, ?_⟩
          refine fr_L (K := K) (fun xs => xs ++ [.int 7]) (e15 _ _ h14) np14 nd14 (fun a m => by obtain ⟨xs, e⟩ := ls14 a m; exact ⟨xs, e15 _ _ e⟩) (fun σ' => ∃ u6 u9, σ' = [some x, some (.str (paperT w t)), some (.ref pf), some (.int (0 + (j : Int))), some (.str (paperT w t)), some v5, u6, some (.ref p14), some (.ref p15), u9]) ⟨_, _, rfl⟩ ?_ ?_
          · rintro a xs σ' G ha ⟨u6, u9, rfl⟩ hax0 hax N kN
            walk_at "go0"
            refine ⟨ty_lst hax, ?_⟩
            walk_at "go0"
            refine w_appB hax ?_ fun G2 b2 h2 => ?_
            · obtain ⟨ys, hys⟩ := ls14 a ha
              rw [e15 _ _ hys] at hax0
              cases hax0
              have := tr_lens (tr_ext e14 t13) a ((st14 a).mpr ha) xs hys
              omega
            · walk_at "go0"
              exact kN _ _ ⟨_, _, rfl⟩ b2 h2
          · rintro σ' H16 ⟨u6, u9, rfl⟩ b16 hc16
            have h16 : H16 p14 = some (.lst (Ks.map V.ref)) := b16 _ _ np14 (e15 _ _ h14)
            have e416 : Ext H4 H16 := ext_butS (Ext.trans (e5.trans (e6.trans (e69.trans (e10.trans e1013)))) (e14.trans e15)) fr14 b16
            walk_at "go0"
            refine ⟨p14, rfl, ⟨_, .inl (.inl h16)⟩, ?_⟩
            refine lr_L (K := K) (M := []) (fun a => .int ((lenAt H14 a : Int) + 1)) (by omega) Dom.nil h16 (fun a G ha eG Ky k1 => ?_) (fun _ => .int _) fun p17 H17 e17 hp17 hM17 h17 => ?_
            · obtain ⟨xs, hxs⟩ := ls14 a ha
              refine ⟨rfl, ?_⟩
              walk_at "go0"
              refine w_lenR (.inl (.inl (eG _ _ (hc16 a xs ha (e15 _ _ hxs))))) ?_
              have e : (((xs ++ [V.int 7]).length : Nat) : Int) = (lenAt H14 a : Int) + 1 := by rw [lenAt_of hxs, List.length_append]; rfl
              rw [e]
              exact k1 _ _ [] (Ext.refl _) (.int _)
            · have np15 : p15 ∉ Ks := fun m => by
                obtain ⟨xs, e⟩ := ls14 p15 m
                rw [hp15] at e; cases e
              obtain ⟨_, acc, ha15, hacc⟩ := h15
              have leafs : ∀ d ∈ Ks.map (fun a => PyData.int (lenAt H14 a)), Leaf d := fun d m => by
                obtain ⟨a, _, rfl⟩ := List.mem_map.mp m
                exact .int _
              have h17m : Lst K [] H17 p15 (Ks.map fun a => PyData.int (lenAt H14 a)) := ⟨(fun z => nomatch z), acc, e17 _ _ (b16 _ _ np15 ha15), dpAll_leaf leafs hacc⟩
              walk_at "go0"
              refine i_listD h17m.dp fun a17 xs17 ea17 hL17 hA17 => ?_
              refine lm_L (K := K) (M := []) Ks (fun a => PyData.int (lenAt H14 a)) id (fun a => PyData.int ((lenAt H14 a : Int) + 1)) (by omega) hM17 hL17 hA17 (fun D i a x2 H18 hi e18 dm hD hx Ky k1 => ?_) (fun D H18 e18 hM18 hD h18 => ?_)
              · cases dp_int hx
                walk_at "go0"
                refine ⟨rfl, ?_⟩
                walk_at "go0"
                exact k1 _ _ (Ext.refl _) (.int _)
              · rw [List.map_id] at h18
                refine w_neSame (k := 1) (h17.ext e18).dp h18.dp (.list fun d m => ?_) (by decide) ?_
                · obtain ⟨a, _, rfl⟩ := List.mem_map.mp m
                  exact .int _
                walk_at "go0"
                exact ⟨e3.trans (e4.trans (e416.trans (e17.trans e18))), _, _, _, _, _, _, _, rfl⟩
    · rintro σ' H3 ⟨e3, u3, u4, u5, u6, u7, u8, u9, rfl⟩
      walk_at "go0"
      exact ⟨x, w, t, L, rfl, tr_ext (e1.trans (e2.trans e3)) ht, ok, fun H' b => q H' ((e1.trans (e2.trans e3)).butS.trans b)⟩
def sp_law (K : PySem.W.Frag) : Sp := fun vs H Q _ => ∃ (a : Addr) (ns : List Int), vs = [.ref a] ∧ ns.length ≤ 63 ∧ SqL K H a (ns.map V.int) ∧ ∀ H', Q (.bl true) H'
theorem law_in {K : PySem.W.Frag} (H : Hp) (a : Addr) (ns : List Int) (hl : ns.length ≤ 63) (hS : SqL K H a (ns.map V.int)) : sp_law K [.ref a] H (fun v _ => v = .bl true) fun _ _ _ => False := ⟨a, ns, rfl, hl, hS, fun _ => rfl⟩
instance dec_stp (s : Stp) : Decidable (okStp s) := match s with
  | .tie a b => inferInstanceAs (Decidable (a < b ∧ b < 10 ^ 40))
  | .place p ps => inferInstanceAs (Decidable (p < 10 ^ 40 ∧ ps.length ≤ 20 ∧ ∀ t ∈ ps, t.1 ≤ t.2 ∧ t.2 < 10 ^ 40))
theorem ok_nu {w : Str} {ns : List Nat} (h : w ∈ (["side", "lot", "setting"] : List Str)) (h2 : ns.length ≤ 100 ∧ ∀ n ∈ ns, n < 10 ^ 40) : okPaper w (.nums ns) := .of h h2 trivial
theorem ok_li {w : Str} {ls : List (List Nat)} (h : w ∈ (["ways", "trees", "woods", "parting", "lots"] : List Str)) (h2 : ls.length ≤ 40) (h3 : ∀ ns ∈ ls, ns.length ≤ 5 ∧ ∀ n ∈ ns, n < 10 ^ 40) : okPaper w (.lists ls) :=
  .of h ⟨h2, fun ns m => ⟨by have := (h3 ns m).1; omega, (h3 ns m).2⟩⟩ fun ns m => (h3 ns m).1
theorem ok_ti {ts : List (Nat × Nat)} (h2 : ts.length ≤ 40) (h3 : ∀ t ∈ ts, t.1 < t.2 ∧ t.2 < 10 ^ 40) : okPaper "ties" (.ties ts) := .of rfl ⟨h2, h3⟩ trivial
theorem ok_ro {f : Nat} {ss : List Stp} (h1 : f < 10 ^ 40) (h2 : ss.length ≤ 60) (h3 : ∀ s ∈ ss, okStp s) (h4 : ss.length ≤ 6 ∨ ∀ s ∈ ss, (stepT s).length ≤ 20) : okPaper "row" (.row f ss) := .of rfl ⟨h1, h2, h3⟩ h4
theorem empty_ok : ∀ e ∈ emptyP, okPaper e.1 e.2 := by
  intro e he
  have he : e ∈ e0 ∨ e ∈ e1 ∨ e ∈ e2 ∨ e ∈ e3 ∨ e ∈ e4 ∨ e ∈ e5 ∨ e ∈ e6 ∨ e ∈ e7 := by
    simp only [emptyP, List.mem_append] at he
    simp only [or_assoc] at he
    exact he
  rcases he with he | he | he | he | he | he | he | he
  all_goals simp only [e0, e1, e2, e3, e4, e5, e6, e7, List.mem_cons, List.not_mem_nil, or_false] at he
  · rcases he with rfl | rfl | rfl | rfl | rfl | rfl | rfl | rfl | rfl
    all_goals first
      | exact ok_nu (by decide +kernel) (by decide +kernel)
      | exact ok_li (by decide +kernel) (by decide) (by decide +kernel)
      | exact ok_ti (by decide) (by decide +kernel)
  · rcases he with rfl | rfl | rfl | rfl | rfl
    all_goals exact ok_li (by decide +kernel) (by decide) (by decide +kernel)
  · rcases he with rfl | rfl | rfl
    · exact ok_li (by decide +kernel) (by decide +kernel) (by decide +kernel)
    · exact ok_li (by decide +kernel) (by decide) (by decide +kernel)
    · exact ok_ti (by decide +kernel) (by decide +kernel)
  · rcases he with rfl | rfl
    · exact ok_ro (by decide) (by decide +kernel) (by decide +kernel) (.inr (by decide +kernel))
    · exact ok_ro (by decide) (by decide +kernel) (by decide +kernel) (.inl (by decide))
  · rw [he]
    exact ok_nu (by decide +kernel) (by decide +kernel)
  · rw [he]
    exact ok_ro (by decide) (by decide +kernel) (by decide +kernel) (.inl (by decide))
  · rcases he with rfl | rfl | rfl | rfl
    · exact ok_li (by decide +kernel) (by decide) (by decide +kernel)
    · exact ok_ro (by decide) (by decide +kernel) (by decide +kernel) (.inl (by decide))
    · exact ok_ro (by decide) (by decide +kernel) (by decide +kernel) (.inl (by decide))
    · exact ok_li (by decide +kernel) (by decide) (by decide +kernel)
  · rw [he]
    exact ok_ro (by decide) (by decide +kernel) (by decide +kernel) (.inl (by decide))
/-- one of many trees, the others behind it -/
theorem trAll_at {H : Hp} : ∀ {vs : List V} {ds : List PyData} {L : List Addr} {i : Nat} {v : V}, TrAll H vs ds L → vs[i]? = some v → ∃ d L1 L2, ds[i]? = some d ∧ Tr H v d L1 ∧ TrAll H (vs.drop (i + 1)) (ds.drop (i + 1)) L2 ∧ (∀ a ∈ L1, a ∈ L) ∧ (∀ a ∈ L2, a ∈ L) ∧ ∀ a ∈ L1, a ∉ L2
  | _, _, _, _, _, .nil, h => by simp at h
  | _ :: _, _ :: _, _, 0, _, .cons (L := A) (L' := B) h r n, e => by
    cases e
    exact ⟨_, A, B, rfl, h, r, fun a m => List.mem_append_left _ m, fun a m => List.mem_append_right _ m, n⟩
  | _ :: _, _ :: _, _, i + 1, _, .cons h r n, e => by
    obtain ⟨d, L1, L2, h1, h2, h3, h4, h5, h6⟩ := trAll_at (i := i) r (by simpa using e)
    exact ⟨d, L1, L2, by simpa using h1, h2, by simpa using h3, fun a m => List.mem_append_right _ (h4 a m), fun a m => List.mem_append_right _ (h5 a m), h6⟩
theorem ok_law {P : Program} {w : World} {K : PySem.W.Frag} {mg : Str → Option Value} {base : Heap} (T : Txt K mg) (O__law_kept : OkF P w K mg base CX0 10 "_law_kept" ["_law_paper_here"] (sp__law_kept K)) (O__law_paper : OkF P w K mg base CX0 6 "_law_paper" ["_law_pile_here"] (sp__law_paper K)) (O__law_pile : OkF P w K mg base CX0 1 "_law_pile" ["_law_script", "_law_k"] (sp__law_pile K)) (O__law_empty : OkF P w K mg base CX0 1 "_law_empty" [] (sp__law_empty K)) : OkF P w K mg base CX0 11 "law" ["_law_script"] (sp_law K) := by
  refine okF0 T.f_law sc_law (fun vs H Q E h => ?_) (fun _ _ _ _ _ _ us hl => match us, hl with | [_], _ => rfl) (fun cdv A outer s H vs Q E hr h => ?_)
  · obtain ⟨a, ns, rfl, hl, hS, q⟩ := h
    rfl
  · have hu := hu_of hr
    have kt : KTok K := rfl
    refine ⟨_, (pss_cons (ps_for PassesOwn.never rfl (pi_range1 (by rfl) T.m_range (pa_cons pe_int pa_nil)) (pg_name (i := 1) sc_law.nd rfl (Or.inl rfl))
        (pss_one (ps_if (pt_not (pt_val (pe_callF O__law_kept (hr.mono (by first | decide | omega)) (by rfl) pass0 (pa_cons (pe_callF O__law_paper (hr.mono (by first | decide | omega)) (by rfl) pass0 (pa_cons (pe_callF O__law_pile (hr.mono (by first | decide | omega)) (by rfl) pass0 (pa_cons (pv 0) (pa_cons (pv 1) pa_nil))) pa_nil)) pa_nil)))) (pss_one (ps_ret pe_bl)) pss_nil)))
      (pss_one (ps_ret (pe_cmpR (op_eqD hr.units) (pe_lc (own := [("_law_paper_here", 2)]) (g := (gName 2)) (by rfl) sc_law.nd (pi_list (pe_callF0 O__law_empty (hr.mono (by decide)) (by rfl) pass0)) (blkOk_by (own := [("_law_paper_here", 2)]) (N := ["_law_script", "_law_at", "_law_paper_here"]) (sc := defScope s_law) (by decide +kernel)) (fun _ _ _ _ _ => (pg_name (i := 2) sc_law.nd rfl (Or.inl rfl))) (fun _ _ _ _ _ => (pts_one (pt_not (pt_val (pe_callF O__law_kept (hr.mono (by first | decide | omega)) (by rfl) pass0 (pa_cons (pv 2) pa_nil)))))) (fun _ _ _ _ _ => (pv 2))) (pe_lst pa_nil) (nomark _))))), ?_⟩
    obtain ⟨a, ns, rfl, hl, hS, q⟩ := h
    try dsimp only [cxOf, Cx.nox, Cx.wish]
    refine start_as (σ := [some _, none, none]) rfl ?_
    walk_at "go"
    refine i_rng1D (by omega) (by omega) ?_
    refine f_R (fun i σ' H' => Ext H H' ∧ ∃ u1, σ' = [some (.ref a), u1, none]) ⟨Ext.refl H, _, rfl⟩ ?_ ?_
    · rintro i σ' H' hi ⟨e0, u1, rfl⟩
      walk_at "go"
      refine ⟨a, ns, 0 + (i : Int), rfl, sql_ext e0 hS, by omega, fun H1 pl hpl e1 hP1 => ?_⟩
      walk_at "go"
      refine ⟨pl, rfl, hP1, fun v H2 w t L b2 hP2 t2 f2 ok => ?_⟩
      have e2 := ext_but e1 hpl b2
      refine ⟨v, w, t, L, rfl, t2, ok, fun H3 b3 => ?_⟩
      walk_at "go"
      have fL : ∀ b ∈ L, H' b = none := fun b m => fresh_back e1 (f2 b m)
      exact ⟨e0.trans (ext_butS e2 fL b3), _, rfl⟩
    · rintro σ' H' ⟨e0, u1, rfl⟩
      walk_at "go"
      refine ⟨rfl, fun p H1 us L e1 hp h1 t1 np f1 => ?_⟩
      refine ⟨p, rfl, ⟨_, .inl (.inl h1)⟩, ?_⟩
      have lus := trAll_len t1
      rw [List.length_map] at lus
      show lcW (Itl K p) _ _ _ _ _ _ _
      intro D hD
      have nDL : D ∉ L := fun m => by
        obtain ⟨xs, e⟩ := trAll_lists t1 D m
        rw [hD] at e; cases e
      refine lc_it (walk_list (K := K) (a := p) (xs := us)) (fun i Hh => Hh D = some (.lst []) ∧ Hh p = some (.lst us) ∧ ∃ Li, TrAll Hh (us.drop i) ((emptyP.map encP).drop i) Li ∧ D ∉ Li ∧ p ∉ Li) ⟨upd_same, ext_new hD _ _ h1, L, trAll_ext (ext_new hD) t1, nDL, np⟩ (fun i Hh _ ⟨_, hp', _⟩ => .inl (.inl hp')) ?_ ?_
      · rintro i x H2 H3 hi ⟨hD2, hp2, Li, t2, nD2, np2⟩ ⟨rfl, hx⟩
        have hx0 : (us.drop i)[0]? = some x := by rw [List.getElem?_drop]; exact hx
        obtain ⟨d, L1, L2, d1, d2, d3, d4, d5, d6⟩ := trAll_at t2 hx0
        rw [List.drop_drop, List.drop_drop] at d3
        have hi2 : i < emptyP.length := by omega
        have hd : d = encP emptyP[i] := by
          rw [List.getElem?_drop, List.getElem?_map, Nat.add_zero, List.getElem?_eq_getElem hi2] at d1
          exact (Option.some.inj d1).symm
        subst hd
        walk_at "go0"
        refine ⟨rfl, ?_⟩
        walk_at "go0"
        refine ⟨x, _, _, L1, rfl, d2, empty_ok _ (List.getElem_mem hi2), fun H4 b4 => ?_⟩
        walk_at "go0"
        have tl : ∀ b ∈ L1, ∀ xs, H3 b ≠ some (.tup xs) := fun b m xs z => by
          obtain ⟨ys, e⟩ := tr_lists d2 b m
          rw [e] at z; cases z
        exact ⟨b4 _ _ (fun m => nD2 (d4 _ m)) hD2, b4 _ _ (fun m => np2 (d4 _ m)) hp2, L2, trAll_but b4 tl d3 fun b m z => d6 b z m, fun m => nD2 (d5 _ m), fun m => np2 (d5 _ m)⟩
      · rintro H2 ⟨hD2, _⟩
        have hM2 : Dom [] H2 := Dom.nil
        have dD : Dp K (vis [] H2) (.ref D) (.list []) := .lst (.inl (.inl (by rw [vis_nil]; exact hD2))) .nil
        walk_at "go"
        rename_i p4 H4 e4 _ h4
        exact w_eqSame (k := 1) (d := .list []) (dpx e4 dD) h4 (.list fun _ h => nomatch h) (by decide) (q _)
def dfn (x : Str) (i : Nat) : He.DefD := ⟨(x, none), x, x, defArgs (topS i), defBody (topS i), defScope (topS i), [], []⟩
def fn : List He.DefD := [dfn "_law_pile" 27, dfn "_law_mixed" 26, dfn "_law_take" 28, dfn "_law_great" 30, dfn "_law_numbers" 31, dfn "_law_pair" 32, dfn "_law_step" 33, dfn "_law_paper" 34, dfn "show_numbers" 12, dfn "show_lists" 14, dfn "number_in" 5, dfn "pair_in" 6, dfn "show_pair" 8, dfn "show_ties" 16, dfn "show_step" 18, dfn "show_row" 21, dfn "show_paper" 23, dfn "_law_empty" 39, dfn "_law_numbers_text" 35, dfn "_law_pairs_text" 36, dfn "_law_step_text" 37, dfn "_law_paper_text" 38, dfn "read_numbers" 13, dfn "read_lists" 15, dfn "tie_in" 7, dfn "read_ties" 17, dfn "even_pair" 19, dfn "read_step" 20, dfn "read_row" 22, dfn "read_paper" 24, dfn "_law_flat" 40, dfn "_law_lists" 44, dfn "_law_whole" 29, dfn "_law_kinds" 41, dfn "_law_shown_anew" 43, dfn "_law_kept" 42, dfn "law" 45]
def fa : List He.Fa := [.str "FIGURES" "0123456789", .glo "LISTS", .glo "NUMBERS", .free "abs", .free "any", .free "bool", .free "int", .free "isinstance", .free "len", .free "list", .free "max", .free "min", .free "range", .free "str", .free "tuple", .free "zip", .glo "_law_pile", .glo "_law_mixed", .glo "_law_take", .glo "_law_great", .glo "_law_numbers", .glo "_law_pair", .glo "_law_step", .glo "_law_paper", .glo "show_numbers", .glo "show_lists", .glo "number_in", .glo "pair_in", .glo "show_pair", .glo "show_ties", .glo "show_step", .glo "show_row", .glo "show_paper", .glo "_law_empty", .glo "_law_numbers_text", .glo "_law_pairs_text", .glo "_law_step_text", .glo "_law_paper_text", .glo "read_numbers", .glo "read_lists", .glo "tie_in", .glo "read_ties", .glo "even_pair", .glo "read_step", .glo "read_row", .glo "read_paper", .glo "_law_flat", .glo "_law_lists", .glo "_law_whole", .glo "_law_kinds", .glo "_law_shown_anew", .glo "_law_kept", .glo "law"]
def exB (K : PySem.W.Frag) : Bool := He.tupB K "NUMBERS" [.str "side", .str "lot", .str "setting"] && (He.tupB K "LISTS" [.str "ways", .str "trees", .str "woods", .str "parting", .str "lots"])
theorem txt_of {K : PySem.W.Frag} {h : Heap} {mg : Str → Option Value} (X : K.In h) (G : h.Ns mainGlobals mg) (cd : He.SaysD fa fn K) (m : exB K = true) : Txt K mg where
  c_FIGURES := He.str_ok X G (cd.fact 0 (f := .str "FIGURES" "0123456789") rfl)
  c_LISTS := He.glo_ok X G (cd.fact 1 (f := .glo "LISTS") rfl)
  c_NUMBERS := He.glo_ok X G (cd.fact 2 (f := .glo "NUMBERS") rfl)
  m_abs := He.free_ok X G (cd.fact 3 (f := .free "abs") rfl)
  m_any := He.free_ok X G (cd.fact 4 (f := .free "any") rfl)
  m_bool := He.free_ok X G (cd.fact 5 (f := .free "bool") rfl)
  m_int := He.free_ok X G (cd.fact 6 (f := .free "int") rfl)
  m_isinstance := He.free_ok X G (cd.fact 7 (f := .free "isinstance") rfl)
  m_len := He.free_ok X G (cd.fact 8 (f := .free "len") rfl)
  m_list := He.free_ok X G (cd.fact 9 (f := .free "list") rfl)
  m_max := He.free_ok X G (cd.fact 10 (f := .free "max") rfl)
  m_min := He.free_ok X G (cd.fact 11 (f := .free "min") rfl)
  m_range := He.free_ok X G (cd.fact 12 (f := .free "range") rfl)
  m_str := He.free_ok X G (cd.fact 13 (f := .free "str") rfl)
  m_tuple := He.free_ok X G (cd.fact 14 (f := .free "tuple") rfl)
  m_zip := He.free_ok X G (cd.fact 15 (f := .free "zip") rfl)
  f__law_pile := ⟨cd.def_ 0 (d := dfn "_law_pile" 27) rfl, He.glo_ok X G (cd.fact 16 (f := .glo "_law_pile") rfl)⟩
  f__law_mixed := ⟨cd.def_ 1 (d := dfn "_law_mixed" 26) rfl, He.glo_ok X G (cd.fact 17 (f := .glo "_law_mixed") rfl)⟩
  f__law_take := ⟨cd.def_ 2 (d := dfn "_law_take" 28) rfl, He.glo_ok X G (cd.fact 18 (f := .glo "_law_take") rfl)⟩
  f__law_great := ⟨cd.def_ 3 (d := dfn "_law_great" 30) rfl, He.glo_ok X G (cd.fact 19 (f := .glo "_law_great") rfl)⟩
  f__law_numbers := ⟨cd.def_ 4 (d := dfn "_law_numbers" 31) rfl, He.glo_ok X G (cd.fact 20 (f := .glo "_law_numbers") rfl)⟩
  f__law_pair := ⟨cd.def_ 5 (d := dfn "_law_pair" 32) rfl, He.glo_ok X G (cd.fact 21 (f := .glo "_law_pair") rfl)⟩
  f__law_step := ⟨cd.def_ 6 (d := dfn "_law_step" 33) rfl, He.glo_ok X G (cd.fact 22 (f := .glo "_law_step") rfl)⟩
  f__law_paper := ⟨cd.def_ 7 (d := dfn "_law_paper" 34) rfl, He.glo_ok X G (cd.fact 23 (f := .glo "_law_paper") rfl)⟩
  f_show_numbers := ⟨cd.def_ 8 (d := dfn "show_numbers" 12) rfl, He.glo_ok X G (cd.fact 24 (f := .glo "show_numbers") rfl)⟩
  f_show_lists := ⟨cd.def_ 9 (d := dfn "show_lists" 14) rfl, He.glo_ok X G (cd.fact 25 (f := .glo "show_lists") rfl)⟩
  f_number_in := ⟨cd.def_ 10 (d := dfn "number_in" 5) rfl, He.glo_ok X G (cd.fact 26 (f := .glo "number_in") rfl)⟩
  f_pair_in := ⟨cd.def_ 11 (d := dfn "pair_in" 6) rfl, He.glo_ok X G (cd.fact 27 (f := .glo "pair_in") rfl)⟩
  f_show_pair := ⟨cd.def_ 12 (d := dfn "show_pair" 8) rfl, He.glo_ok X G (cd.fact 28 (f := .glo "show_pair") rfl)⟩
  f_show_ties := ⟨cd.def_ 13 (d := dfn "show_ties" 16) rfl, He.glo_ok X G (cd.fact 29 (f := .glo "show_ties") rfl)⟩
  f_show_step := ⟨cd.def_ 14 (d := dfn "show_step" 18) rfl, He.glo_ok X G (cd.fact 30 (f := .glo "show_step") rfl)⟩
  f_show_row := ⟨cd.def_ 15 (d := dfn "show_row" 21) rfl, He.glo_ok X G (cd.fact 31 (f := .glo "show_row") rfl)⟩
  f_show_paper := ⟨cd.def_ 16 (d := dfn "show_paper" 23) rfl, He.glo_ok X G (cd.fact 32 (f := .glo "show_paper") rfl)⟩
  f__law_empty := ⟨cd.def_ 17 (d := dfn "_law_empty" 39) rfl, He.glo_ok X G (cd.fact 33 (f := .glo "_law_empty") rfl)⟩
  f__law_numbers_text := ⟨cd.def_ 18 (d := dfn "_law_numbers_text" 35) rfl, He.glo_ok X G (cd.fact 34 (f := .glo "_law_numbers_text") rfl)⟩
  f__law_pairs_text := ⟨cd.def_ 19 (d := dfn "_law_pairs_text" 36) rfl, He.glo_ok X G (cd.fact 35 (f := .glo "_law_pairs_text") rfl)⟩
  f__law_step_text := ⟨cd.def_ 20 (d := dfn "_law_step_text" 37) rfl, He.glo_ok X G (cd.fact 36 (f := .glo "_law_step_text") rfl)⟩
  f__law_paper_text := ⟨cd.def_ 21 (d := dfn "_law_paper_text" 38) rfl, He.glo_ok X G (cd.fact 37 (f := .glo "_law_paper_text") rfl)⟩
  f_read_numbers := ⟨cd.def_ 22 (d := dfn "read_numbers" 13) rfl, He.glo_ok X G (cd.fact 38 (f := .glo "read_numbers") rfl)⟩
  f_read_lists := ⟨cd.def_ 23 (d := dfn "read_lists" 15) rfl, He.glo_ok X G (cd.fact 39 (f := .glo "read_lists") rfl)⟩
  f_tie_in := ⟨cd.def_ 24 (d := dfn "tie_in" 7) rfl, He.glo_ok X G (cd.fact 40 (f := .glo "tie_in") rfl)⟩
  f_read_ties := ⟨cd.def_ 25 (d := dfn "read_ties" 17) rfl, He.glo_ok X G (cd.fact 41 (f := .glo "read_ties") rfl)⟩
  f_even_pair := ⟨cd.def_ 26 (d := dfn "even_pair" 19) rfl, He.glo_ok X G (cd.fact 42 (f := .glo "even_pair") rfl)⟩
  f_read_step := ⟨cd.def_ 27 (d := dfn "read_step" 20) rfl, He.glo_ok X G (cd.fact 43 (f := .glo "read_step") rfl)⟩
  f_read_row := ⟨cd.def_ 28 (d := dfn "read_row" 22) rfl, He.glo_ok X G (cd.fact 44 (f := .glo "read_row") rfl)⟩
  f_read_paper := ⟨cd.def_ 29 (d := dfn "read_paper" 24) rfl, He.glo_ok X G (cd.fact 45 (f := .glo "read_paper") rfl)⟩
  f__law_flat := ⟨cd.def_ 30 (d := dfn "_law_flat" 40) rfl, He.glo_ok X G (cd.fact 46 (f := .glo "_law_flat") rfl)⟩
  f__law_lists := ⟨cd.def_ 31 (d := dfn "_law_lists" 44) rfl, He.glo_ok X G (cd.fact 47 (f := .glo "_law_lists") rfl)⟩
  f__law_whole := ⟨cd.def_ 32 (d := dfn "_law_whole" 29) rfl, He.glo_ok X G (cd.fact 48 (f := .glo "_law_whole") rfl)⟩
  f__law_kinds := ⟨cd.def_ 33 (d := dfn "_law_kinds" 41) rfl, He.glo_ok X G (cd.fact 49 (f := .glo "_law_kinds") rfl)⟩
  f__law_shown_anew := ⟨cd.def_ 34 (d := dfn "_law_shown_anew" 43) rfl, He.glo_ok X G (cd.fact 50 (f := .glo "_law_shown_anew") rfl)⟩
  f__law_kept := ⟨cd.def_ 35 (d := dfn "_law_kept" 42) rfl, He.glo_ok X G (cd.fact 51 (f := .glo "_law_kept") rfl)⟩
  f_law := ⟨cd.def_ 36 (d := dfn "law" 45) rfl, He.glo_ok X G (cd.fact 52 (f := .glo "law") rfl)⟩
  u_NUMBERS := (He.ba m).1
  u_LISTS := (He.ba m).2
abbrev R : PySem.W.OpenRow := PySem.W.OpenLaw.row PySem.Challenge.rw_holdfast_k74_papers_as_texts
abbrev hk : PySem.W.Hook := He.hookX 4 fa fn [] [] exB
def ob (s : PySem.W.SharedT) : He.AlX := He.obsX 4 fa fn [] [] exB (HandSHeadRun.getT s)
theorem ob_eq (s : PySem.W.SharedT) : ob s = hk.obs s.abs := He.obsX_eq (HandSHeadRun.getT_eq s)
def loose0 : List Str := ["HoldError", "NoText", "FIGURES", "number_in", "pair_in", "tie_in", "show_pair", "NUMBERS", "LISTS", "show_numbers", "read_numbers", "show_lists", "read_lists", "show_ties", "read_ties", "show_step", "even_pair", "read_step", "show_row", "read_row", "show_paper", "read_paper", "_law_mixed", "_law_pile", "_law_take", "_law_whole", "_law_great", "_law_numbers", "_law_pair", "_law_step"]
def loose1 : List Str := ["_law_paper", "_law_numbers_text", "_law_pairs_text", "_law_step_text", "_law_paper_text", "_law_empty", "_law_flat", "_law_kinds", "_law_kept", "_law_shown_anew", "_law_lists"]
def loose : List Str := loose0 ++ loose1
set_option maxHeartbeats 0 in
theorem run (w : World) : HandSHeadRun.RunEq R (PySem.W.view R.prog [45]) hk ob 9600 loose w := by
  intro os
  kernel_rfl
theorem all_ok {P : Program} {w : World} {K : PySem.W.Frag} {mg : Str → Option Value} {base : Heap} (T : Txt K mg) : OkF P w K mg base CX0 11 "law" ["_law_script"] (sp_law K) := by
  have O__law_pile := ok__law_pile (P := P) (w := w) (K := K) (mg := mg) (base := base) T 
  have O__law_mixed := ok__law_mixed (P := P) (w := w) (K := K) (mg := mg) (base := base) T 
  have O__law_take := ok__law_take (P := P) (w := w) (K := K) (mg := mg) (base := base) T O__law_mixed
  have O__law_great := ok__law_great (P := P) (w := w) (K := K) (mg := mg) (base := base) T O__law_take
  have O__law_numbers := ok__law_numbers (P := P) (w := w) (K := K) (mg := mg) (base := base) T O__law_take O__law_great
  have O__law_pair := ok__law_pair (P := P) (w := w) (K := K) (mg := mg) (base := base) T O__law_great
  have O__law_step := ok__law_step (P := P) (w := w) (K := K) (mg := mg) (base := base) T O__law_take O__law_pair O__law_great
  have O__law_paper := ok__law_paper (P := P) (w := w) (K := K) (mg := mg) (base := base) T O__law_take O__law_numbers O__law_pair O__law_great O__law_step
  have O_show_numbers := ok_show_numbers (P := P) (w := w) (K := K) (mg := mg) (base := base) T 
  have O_show_lists := ok_show_lists (P := P) (w := w) (K := K) (mg := mg) (base := base) T O_show_numbers
  have O_number_in := ok_number_in (P := P) (w := w) (K := K) (mg := mg) (base := base) T 
  have O_pair_in := ok_pair_in (P := P) (w := w) (K := K) (mg := mg) (base := base) T O_number_in
  have O_show_pair := ok_show_pair (P := P) (w := w) (K := K) (mg := mg) (base := base) T 
  have O_show_ties := ok_show_ties (P := P) (w := w) (K := K) (mg := mg) (base := base) T O_show_pair
  have O_show_step := ok_show_step (P := P) (w := w) (K := K) (mg := mg) (base := base) T O_show_pair
  have O_show_row := ok_show_row (P := P) (w := w) (K := K) (mg := mg) (base := base) T O_show_step
  have O_show_paper := ok_show_paper (P := P) (w := w) (K := K) (mg := mg) (base := base) T O_show_numbers O_show_lists O_show_ties O_show_row
  have O__law_empty := ok__law_empty (P := P) (w := w) (K := K) (mg := mg) (base := base) T 
  have O__law_numbers_text := ok__law_numbers_text (P := P) (w := w) (K := K) (mg := mg) (base := base) T 
  have O__law_pairs_text := ok__law_pairs_text (P := P) (w := w) (K := K) (mg := mg) (base := base) T 
  have O__law_step_text := ok__law_step_text (P := P) (w := w) (K := K) (mg := mg) (base := base) T O__law_pairs_text
  have O__law_paper_text := ok__law_paper_text (P := P) (w := w) (K := K) (mg := mg) (base := base) T O__law_numbers_text O__law_pairs_text O__law_step_text
  have O_read_numbers := ok_read_numbers (P := P) (w := w) (K := K) (mg := mg) (base := base) T O_number_in
  have O_read_lists := ok_read_lists (P := P) (w := w) (K := K) (mg := mg) (base := base) T O_read_numbers
  have O_tie_in := ok_tie_in (P := P) (w := w) (K := K) (mg := mg) (base := base) T O_pair_in
  have O_read_ties := ok_read_ties (P := P) (w := w) (K := K) (mg := mg) (base := base) T O_tie_in
  have O_even_pair := ok_even_pair (P := P) (w := w) (K := K) (mg := mg) (base := base) T O_pair_in
  have O_read_step := ok_read_step (P := P) (w := w) (K := K) (mg := mg) (base := base) T O_tie_in O_number_in O_even_pair
  have O_read_row := ok_read_row (P := P) (w := w) (K := K) (mg := mg) (base := base) T O_number_in O_read_step
  have O_read_paper := ok_read_paper (P := P) (w := w) (K := K) (mg := mg) (base := base) T O_read_numbers O_read_lists O_read_ties O_read_row
  have O__law_flat := ok__law_flat (P := P) (w := w) (K := K) (mg := mg) (base := base) T 
  have O__law_lists := ok__law_lists (P := P) (w := w) (K := K) (mg := mg) (base := base) T 
  have O__law_whole := ok__law_whole (P := P) (w := w) (K := K) (mg := mg) (base := base) T 
  have O__law_kinds := ok__law_kinds (P := P) (w := w) (K := K) (mg := mg) (base := base) T O__law_whole
  have O__law_shown_anew := ok__law_shown_anew (P := P) (w := w) (K := K) (mg := mg) (base := base) T O_show_paper O__law_paper_text
  have O__law_kept := ok__law_kept (P := P) (w := w) (K := K) (mg := mg) (base := base) T O__law_paper_text O__law_flat O_show_paper O_read_paper O__law_kinds O__law_lists O__law_shown_anew
  have O_law := ok_law (P := P) (w := w) (K := K) (mg := mg) (base := base) T O__law_kept O__law_paper O__law_pile O__law_empty
  exact O_law
end L74
open PySem PySem.W PySem.Calls PyProof.Rows
set_option maxHeartbeats 0 in
theorem PySem.Challenge.cw_holdfast_k74_papers_as_texts_holds : PySem.Challenge.rw_holdfast_k74_papers_as_texts.Holds := by
  w_on; o_law
  refine HandSHeadRun.head_any (r := OpenLaw.row PySem.Challenge.rw_holdfast_k74_papers_as_texts) (q := view (OpenLaw.row PySem.Challenge.rw_holdfast_k74_papers_as_texts).prog [45]) (H := L74.hk) (ob := L74.ob) (M := 9600) (loose := L74.loose) (d := HandSHeadRun.topDef (OpenLaw.row PySem.Challenge.rw_holdfast_k74_papers_as_texts).prog 45) (kwd := []) L74.ob_eq
    (by kernel_rfl) (fun s => by kernel_rfl) L74.run (by kernel_rfl) (by kernel_rfl) (by kernel_rfl) (by rfl) (by first | assumption | decide +kernel) (by decide +kernel) ⟨rfl, rfl, rfl, rfl, rfl, by decide +kernel⟩ ?hw ?hc
  case hw => w_witness2
  case hc =>
    refine L2.walk_ofE (l := PySem.Challenge.rw_holdfast_k74_papers_as_texts) (n := 63) (k := 11) (x := "_law_script") (CX := L2.CX0) rfl (by decide) (by kernel_rfl) ⟨rfl, by decide, by decide⟩ ?F (fun _ _ _ _ z => z)
    intro w mg fa h Y G hmg0
    obtain ⟨K, KX, c⟩ := Y
    have hmg : mg ("law" : PySem.Str) = some (.ref fa) := by
      have e : (HandSHeadRun.topDef (OpenLaw.row PySem.Challenge.rw_holdfast_k74_papers_as_texts).prog 45).name = ("law" : PySem.Str) := by kernel_rfl
      rw [← e]
      exact hmg0
    have T := L74.txt_of KX G c.t.d c.more
    have e := hmg.symm.trans T.f_law.gl
    cases e
    exact Hf.law_end KX G (fun base => L74.all_ok T) (fun H a ns hl hS => L74.law_in H a ns hl hS)
