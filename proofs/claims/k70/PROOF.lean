import PyProof.Rows.All
import Wide.All
import OpenK.AllK
import Wide.FinOn
import KE.KStateDown
import Lean
import HandS.ForMost
import HandS.Wide
import HandS.WideBits
import HandS.SortInts
import HandS.FStr
import HandS.IsInst
import HandS.TupAny
import HandS.Exc
import HandS.TryOnly
import HandS.ExcOwn
import HandS.WordsExc
import HandS.Defaults
import HandS.Walk
import HandS.Zip
import HandS.Style
import HandS.Head0
import HandS.Head1
import HandS.Head2
import HandS.HeadEnd
import HandS.HeadHook1
import HandS.HeadHook2
import HandS.HeadHook3
import HandS.HeadHook4
import PySem.Challenge.RW_holdfast_k70_webs_as_texts
set_option Elab.async false
set_option linter.all false
set_option maxRecDepth 100000
set_option maxHeartbeats 4000000
namespace Hf
open PySem PySem.Spec PyProof.Rows L2
/-! ## heaps: what is visible beside some hidden objects -/
abbrev Ext (H H' : Hp) : Prop := ∀ b o, H b = some o → H' b = some o
theorem Ext.refl (H : Hp) : Ext H H := fun _ _ h => h
theorem Ext.trans {H H1 H2 : Hp} (a : Ext H H1) (b : Ext H1 H2) : Ext H H2 := fun c o h => b c o (a c o h)
/-- all but one object stands -/
abbrev But (a : Addr) (H H' : Hp) : Prop := ∀ b o, b ≠ a → H b = some o → H' b = some o
theorem Ext.but {a : Addr} {H H' : Hp} (e : Ext H H') : But a H H' := fun b o _ h => e b o h
theorem But.trans {a : Addr} {H H1 H2 : Hp} (x : But a H H1) (y : But a H1 H2) : But a H H2 := fun c o n h => y c o n (x c o n h)
theorem ext_new {H : Hp} {p : Addr} {o : HO} (h : H p = none) : Ext H (upd H p o) := fun b u e => by
  rw [upd_ne (ne_of_none e h)]; exact e
/-- an object that was not known ahead may change -/
theorem ext_mut {H H' : Hp} {p : Addr} {o : HO} (e : Ext H H') (h : H p = none) : Ext H (upd H' p o) := fun b u hb => by
  rw [upd_ne (ne_of_none hb h)]; exact e b u hb
theorem fresh_back {H H' : Hp} {p : Addr} (e : Ext H H') (h : H' p = none) : H p = none := by
  cases q : H p with
  | none => rfl
  | some o => rw [e p o q] at h; cases h
def vis (M : List Addr) (H : Hp) : Hp := fun b => if b ∈ M then none else H b
theorem vis_nil (H : Hp) : vis [] H = H := by
  funext b; unfold vis; rw [if_neg (by simp)]
theorem vis_out {M : List Addr} {H : Hp} {b : Addr} (h : b ∉ M) : vis M H b = H b := by unfold vis; rw [if_neg h]
theorem vis_some {M : List Addr} {H : Hp} {b : Addr} {o : HO} (h : vis M H b = some o) : b ∉ M ∧ H b = some o := by
  unfold vis at h
  by_cases c : b ∈ M
  · rw [if_pos c] at h; cases h
  · rw [if_neg c] at h; exact ⟨c, h⟩
theorem vis_le (M : List Addr) (H : Hp) : Ext (vis M H) H := fun b o h => (vis_some h).2
theorem vis_mono {M : List Addr} {H H' : Hp} (e : Ext H H') : Ext (vis M H) (vis M H') := fun b o h => by
  obtain ⟨n, q⟩ := vis_some h
  rw [vis_out n]; exact e b o q
theorem vis_sub {M M' : List Addr} {H : Hp} (s : ∀ b ∈ M, b ∈ M') : Ext (vis M' H) (vis M H) := fun b o h => by
  obtain ⟨n, q⟩ := vis_some h
  rw [vis_out fun z => n (s b z)]; exact q
theorem vis_cons (M : List Addr) (H : Hp) (l : Addr) : Ext (vis (l :: M) H) (vis M H) := vis_sub fun _ h => List.mem_cons_of_mem _ h
theorem vis_but {M : List Addr} {H H' : Hp} {a : Addr} (e : But a H H') (h : a ∈ M) : Ext (vis M H) (vis M H') := fun b o q => by
  obtain ⟨n, q⟩ := vis_some q
  rw [vis_out n]; exact e b o (fun z => n (z ▸ h)) q
/-- a new object is hidden from what was known -/
theorem vis_hide {M : List Addr} {H H' : Hp} {l : Addr} (e : Ext H H') (h : H l = none) : Ext (vis M H) (vis (l :: M) H') := fun b o q => by
  obtain ⟨n, q⟩ := vis_some q
  rw [vis_out (by
    intro z
    rcases List.mem_cons.mp z with z | z
    · subst z; rw [h] at q; cases q
    · exact n z)]
  exact e b o q
theorem vis_upd {M : List Addr} {H : Hp} {l : Addr} {o : HO} (h : l ∈ M) : vis M (upd H l o) = vis M H := by
  funext b; unfold vis
  by_cases c : b ∈ M
  · rw [if_pos c, if_pos c]
  · rw [if_neg c, if_neg c, upd_ne fun z => c (by rw [z]; exact h)]
/-- the hidden objects stand -/
def Dom (M : List Addr) (H : Hp) : Prop := ∀ b ∈ M, H b ≠ none
theorem Dom.nil {H : Hp} : Dom [] H := fun _ h => by cases h
theorem some_ne {H : Hp} {b : Addr} {o : HO} (h : H b = some o) : H b ≠ none := by rw [h]; exact fun z => nomatch z
theorem ne_some {H : Hp} {b : Addr} (h : H b ≠ none) : ∃ o, H b = some o := by
  cases e : H b with
  | none => exact absurd e h
  | some o => exact ⟨o, rfl⟩
theorem Dom.ext {M : List Addr} {H H' : Hp} (d : Dom M H) (e : Ext H H') : Dom M H' := fun b hb => by
  obtain ⟨o, h⟩ := ne_some (d b hb)
  exact some_ne (e b o h)
theorem Dom.cons {M : List Addr} {H : Hp} {l : Addr} (d : Dom M H) (h : H l ≠ none) : Dom (l :: M) H := fun b hb => by
  rcases List.mem_cons.mp hb with z | z
  · subst z; exact h
  · exact d b z
theorem Dom.tail {M : List Addr} {H : Hp} {l : Addr} (d : Dom (l :: M) H) : Dom M H := fun b hb => d b (List.mem_cons_of_mem _ hb)
theorem Dom.upd {M : List Addr} {H : Hp} {l : Addr} {o : HO} (d : Dom M H) : Dom M (upd H l o) := fun b hb => by
  by_cases c : b = l
  · subst c; rw [upd_same]; exact fun z => nomatch z
  · rw [upd_ne c]; exact d b hb
theorem Dom.but {M : List Addr} {H H' : Hp} {a : Addr} (d : Dom M H) (e : But a H H') (h : H' a ≠ none) : Dom M H' := fun b hb => by
  by_cases c : b = a
  · subst c; exact h
  · obtain ⟨o, q⟩ := ne_some (d b hb)
    exact some_ne (e b o c q)
theorem Dom.new {M : List Addr} {H : Hp} {p : Addr} (d : Dom M H) (h : H p = none) : p ∉ M := fun z => d p z h
/-! ## data in the heap -/
theorem sql_ext {K : PySem.W.Frag} {G G' : Hp} {a : Addr} {xs : List V} (e : Ext G G') (h : SqL K G a xs) : SqL K G' a xs := by
  rcases h with (h | ⟨o, h⟩) | h
  · exact .inl (.inl (e _ _ h))
  · exact .inl (.inr ⟨o, e _ _ h⟩)
  · exact .inr h
theorem sqt_ext {K : PySem.W.Frag} {G G' : Hp} {a : Addr} {xs : List V} (e : Ext G G') (h : SqT K G a xs) : SqT K G' a xs := by
  rcases h with (h | ⟨o, h⟩) | h
  · exact .inl (.inl (e _ _ h))
  · exact .inl (.inr ⟨o, e _ _ h⟩)
  · exact .inr h
theorem rd_inj {G : Hp} {a : Addr} {u u' : HO} (nf : ∀ o w, u ≠ .frz o w) (nf' : ∀ o w, u' ≠ .frz o w) (h : Rd G a u) (h' : Rd G a u') : u = u' := by
  rcases h with h | ⟨o, h⟩ <;> rcases h' with h' | ⟨o', h'⟩
  · rw [h] at h'; exact Option.some.inj h'
  · rw [h] at h'; exact absurd (Option.some.inj h') (nf _ _)
  · rw [h] at h'; exact absurd (Option.some.inj h').symm (nf' _ _)
  · rw [h] at h'; have := Option.some.inj h'; injection this
mutual
theorem dp_ext {K : PySem.W.Frag} {G G' : Hp} (e : Ext G G') : ∀ {v : V} {d : PyData}, Dp K G v d → Dp K G' v d
  | _, _, .non => .non
  | _, _, .bl b => .bl b
  | _, _, .int i => .int i
  | _, _, .str x => .str x
  | _, _, .lst h r => .lst (sql_ext e h) (dpAll_ext e r)
  | _, _, .tup h r => .tup (sqt_ext e h) (dpAll_ext e r)
theorem dpAll_ext {K : PySem.W.Frag} {G G' : Hp} (e : Ext G G') : ∀ {vs : List V} {ds : List PyData}, DpAll K G vs ds → DpAll K G' vs ds
  | _, _, .nil => .nil
  | _, _, .cons h r => .cons (dp_ext e h) (dpAll_ext e r)
end
section
variable {K : PySem.W.Frag} {G : Hp} {v : V} {vs : List V} {ds : List PyData} {d : PyData}
theorem dp_int {i : Int} (h : Dp K G v (.int i)) : v = .int i := by cases h; rfl
theorem dp_str {x : Str} (h : Dp K G v (.str x)) : v = .str x := by cases h; rfl
theorem dp_bl {x : Bool} (h : Dp K G v (.bool x)) : v = .bl x := by cases h; rfl
theorem dp_non (h : Dp K G v .none) : v = .non := by cases h; rfl
theorem dp_list (h : Dp K G v (.list ds)) : ∃ a vs, v = .ref a ∧ SqL K G a vs ∧ DpAll K G vs ds := by
  cases h with
  | lst h r => exact ⟨_, _, rfl, h, r⟩
theorem dp_tup (h : Dp K G v (.tuple ds)) : ∃ a vs, v = .ref a ∧ SqT K G a vs ∧ DpAll K G vs ds := by
  cases h with
  | tup h r => exact ⟨_, _, rfl, h, r⟩
theorem dpAll_len : ∀ {vs : List V} {ds : List PyData}, DpAll K G vs ds → vs.length = ds.length
  | _, _, .nil => rfl
  | _, _, .cons _ r => by simp [dpAll_len r]
theorem dpAll_get : ∀ {vs : List V} {ds : List PyData} {i : Nat} {d : PyData}, DpAll K G vs ds → ds[i]? = some d → ∃ v, vs[i]? = some v ∧ Dp K G v d
  | _, _, _, _, .nil, e => by simp at e
  | _, _, 0, _, .cons h _, e => by simp at e; subst e; exact ⟨_, rfl, h⟩
  | _, _, i + 1, _, .cons _ r, e => by
    obtain ⟨v, h1, h2⟩ := dpAll_get (i := i) r (by simpa using e)
    exact ⟨v, by simpa using h1, h2⟩
theorem dpAll_get' : ∀ {vs : List V} {ds : List PyData} {i : Nat} {v : V}, DpAll K G vs ds → vs[i]? = some v → ∃ d, ds[i]? = some d ∧ Dp K G v d
  | _, _, _, _, .nil, e => by simp at e
  | _, _, 0, _, .cons h _, e => by simp at e; subst e; exact ⟨_, rfl, h⟩
  | _, _, i + 1, _, .cons _ r, e => by
    obtain ⟨v, h1, h2⟩ := dpAll_get' (i := i) r (by simpa using e)
    exact ⟨v, by simpa using h1, h2⟩
theorem dpAll_append : ∀ {vs us : List V} {ds es : List PyData}, DpAll K G vs ds → DpAll K G us es → DpAll K G (vs ++ us) (ds ++ es)
  | _, _, _, _, .nil, s => s
  | _, _, _, _, .cons h r, s => .cons h (dpAll_append r s)
theorem dpAll_ints : ∀ (ns : List Int), DpAll K G (ns.map V.int) (ns.map PyData.int)
  | [] => .nil
  | n :: r => .cons (.int n) (dpAll_ints r)
theorem dpAll_strs : ∀ (ns : List Str), DpAll K G (ns.map V.str) (ns.map PyData.str)
  | [] => .nil
  | n :: r => .cons (.str n) (dpAll_strs r)
theorem dpAll_bls : ∀ (ns : List Bool), DpAll K G (ns.map V.bl) (ns.map PyData.bool)
  | [] => .nil
  | n :: r => .cons (.bl n) (dpAll_bls r)
theorem ints_of_dp : ∀ {vs : List V} {ns : List Int}, DpAll K G vs (ns.map PyData.int) → vs = ns.map V.int
  | _, [], h => by cases h; rfl
  | _, n :: r, h => by
    cases h with
    | cons h1 h2 => rw [dp_int h1, ints_of_dp h2]; rfl
theorem strs_of_dp : ∀ {vs : List V} {ns : List Str}, DpAll K G vs (ns.map PyData.str) → vs = ns.map V.str
  | _, [], h => by cases h; rfl
  | _, n :: r, h => by
    cases h with
    | cons h1 h2 => rw [dp_str h1, strs_of_dp h2]; rfl
theorem bls_of_dp : ∀ {vs : List V} {ns : List Bool}, DpAll K G vs (ns.map PyData.bool) → vs = ns.map V.bl
  | _, [], h => by cases h; rfl
  | _, n :: r, h => by
    cases h with
    | cons h1 h2 => rw [dp_bl h1, bls_of_dp h2]; rfl
theorem dpAll_take (n : Nat) : ∀ {vs : List V} {ds : List PyData}, DpAll K G vs ds → DpAll K G (vs.take n) (ds.take n) := by
  induction n with
  | zero => intro vs ds _; exact .nil
  | succ n ih =>
    intro vs ds h
    cases h with
    | nil => exact .nil
    | cons h r => exact .cons h (ih r)
theorem dpAll_drop (n : Nat) : ∀ {vs : List V} {ds : List PyData}, DpAll K G vs ds → DpAll K G (vs.drop n) (ds.drop n) := by
  induction n with
  | zero => intro vs ds h; exact h
  | succ n ih =>
    intro vs ds h
    cases h with
    | nil => exact .nil
    | cons h r => exact ih r
end
section
variable {K : PySem.W.Frag} {M : List Addr} {H H' : Hp} {v : V} {d : PyData}
theorem dpx (e : Ext H H') (h : Dp K (vis M H) v d) : Dp K (vis M H') v d := dp_ext (vis_mono e) h
theorem dpb {a : Addr} (e : But a H H') (m : a ∈ M) (h : Dp K (vis M H) v d) : Dp K (vis M H') v d := dp_ext (vis_but e m) h
theorem dpAllx {vs : List V} {ds : List PyData} (e : Ext H H') (h : DpAll K (vis M H) vs ds) : DpAll K (vis M H') vs ds := dpAll_ext (vis_mono e) h
theorem dpAllb {a : Addr} {vs : List V} {ds : List PyData} (e : But a H H') (m : a ∈ M) (h : DpAll K (vis M H) vs ds) : DpAll K (vis M H') vs ds := dpAll_ext (vis_but e m) h
theorem sqlv {a : Addr} {xs : List V} (h : SqL K (vis M H) a xs) : SqL K H a xs := sql_ext (vis_le M H) h
theorem sqtv {a : Addr} {xs : List V} (h : SqT K (vis M H) a xs) : SqT K H a xs := sqt_ext (vis_le M H) h
end
end Hf

namespace Hf
open PySem PySem.Spec PyProof.Rows L2
/-- tells which written part is meant -/
def KTok (K : PySem.W.Frag) : Prop := K = K
/-! ## readings, step by step (what follows is Q) -/
section
variable {K : PySem.W.Frag} {σ : L2.St} {H : Hp} {Q : VK} {v x y : V} {ta tb tc te : TE} {t : TA} {r : R2} {M : List Addr}
theorem w_var {i : Nat} (h : σ[i]? = some (some v)) (q : Q v H) : tVar i σ H Q := ⟨v, h, q⟩
theorem w_c (q : Q v H) : tC v σ H Q := q
theorem w_op (q : ta σ H fun x H1 => tb σ H1 fun y H2 => r x y H2 Q) : tOp r ta tb σ H Q := q
theorem w_un {r : V → Hp → VK → Prop} (q : ta σ H fun x H1 => r x H1 Q) : tUn r ta σ H Q := q
theorem w_I0 {g : Int → Int → V} {i j : Int} (q : Q (g i j) H) : rI0 g (.int i) (.int j) H Q := ⟨i, j, rfl, rfl, q⟩
theorem w_I {C : Int → Int → Prop} {g : Int → Int → V} {i j : Int} (c : C i j) (q : Q (g i j) H) : rI C g (.int i) (.int j) H Q := ⟨i, j, rfl, rfl, c, q⟩
theorem w_U {g : Int → V} {i : Int} (q : Q (g i) H) : rU g (.int i) H Q := ⟨i, rfl, q⟩
theorem w_eq (h : scal x y = true) (q : Q (.bl (decide (x = y))) H) : rEq x y H Q := ⟨h, q⟩
theorem w_ne (h : scal x y = true) (q : Q (.bl (!decide (x = y))) H) : rNe x y H Q := ⟨h, q⟩
theorem w_eqI {i j : Int} (q : Q (.bl (decide (i = j))) H) : rEq (.int i) (.int j) H Q := ⟨rfl, by
  have e : (decide (V.int i = V.int j)) = decide (i = j) := by
    by_cases h : i = j
    · subst h; simp
    · rw [decide_eq_false h, decide_eq_false fun z => h (V.int.inj z)]
  rw [e]; exact q⟩
theorem w_neI {i j : Int} (q : Q (.bl (!decide (i = j))) H) : rNe (.int i) (.int j) H Q := ⟨rfl, by
  have e : (decide (V.int i = V.int j)) = decide (i = j) := by
    by_cases h : i = j
    · subst h; simp
    · rw [decide_eq_false h, decide_eq_false fun z => h (V.int.inj z)]
  rw [e]; exact q⟩
theorem w_eqS {i j : Str} (q : Q (.bl (decide (i = j))) H) : rEq (.str i) (.str j) H Q := ⟨rfl, by
  have e : (decide (V.str i = V.str j)) = decide (i = j) := by
    by_cases h : i = j
    · subst h; simp
    · rw [decide_eq_false h, decide_eq_false fun z => h (V.str.inj z)]
  rw [e]; exact q⟩
theorem w_neS {i j : Str} (q : Q (.bl (!decide (i = j))) H) : rNe (.str i) (.str j) H Q := ⟨rfl, by
  have e : (decide (V.str i = V.str j)) = decide (i = j) := by
    by_cases h : i = j
    · subst h; simp
    · rw [decide_eq_false h, decide_eq_false fun z => h (V.str.inj z)]
  rw [e]; exact q⟩
theorem w_cons {tr : TA} {Q : List V → Hp → Prop} (q : ta σ H fun x H1 => tr σ H1 fun xs H2 => Q (x :: xs) H2) : tCons ta tr σ H Q := q
theorem w_nil {Q : List V → Hp → Prop} (q : Q [] H) : tNil σ H Q := q
theorem w_cb {r : List V → Hp → VK → Prop} (q : t σ H fun vs H1 => r vs H1 Q) : tCB r t σ H Q := q
theorem w_test {Q : Bool → Hp → Prop} (q : te σ H fun x H' => ∃ k, x = .bl k ∧ Q k H') : tTest te σ H Q := q
theorem w_B {Q : Bool → Hp → Prop} (q : te σ H fun x H' => ∃ k, x = .bl k ∧ Q k H') : tB te σ H Q := q
theorem w_bl {b : Bool} {Q : Bool → Hp → Prop} (q : Q b H) : ∃ k, V.bl b = .bl k ∧ Q k H := ⟨b, rfl, q⟩
theorem w_and {tt uu : TT} {Q : Bool → Hp → Prop} (q : tt σ H fun c H1 => if c = true then uu σ H1 Q else Q false H1) : tAnd tt uu σ H Q := q
theorem w_or {tt uu : TT} {Q : Bool → Hp → Prop} (q : tt σ H fun c H1 => if c = true then Q true H1 else uu σ H1 Q) : tOr tt uu σ H Q := q
theorem w_not {tt : TT} {Q : Bool → Hp → Prop} (q : tt σ H fun c H1 => Q (!c) H1) : tNot tt σ H Q := q
theorem w_andV (q : ta σ H fun x H1 => ∃ c, x = .bl c ∧ if c = true then tb σ H1 Q else Q (.bl false) H1) : tAndV ta tb σ H Q := q
theorem w_orV (q : ta σ H fun x H1 => ∃ c, x = .bl c ∧ if c = true then Q (.bl true) H1 else tb σ H1 Q) : tOrV ta tb σ H Q := q
theorem w_notV (q : ta σ H fun x H1 => ∃ c, x = .bl c ∧ Q (.bl (!c)) H1) : tNotV ta σ H Q := q
theorem w_blV {b : Bool} {P : Bool → Prop} (q : P b) : ∃ k, V.bl b = .bl k ∧ P k := ⟨b, rfl, q⟩
theorem w_if {tt : TT} (q : tt σ H fun c H1 => if c = true then ta σ H1 Q else tb σ H1 Q) : tIf tt ta tb σ H Q := q
/-- a test whose answer is open -/
theorem w_ite {p A B : Prop} [Decidable p] (h1 : p → A) (h2 : ¬ p → B) : if decide p = true then A else B := by
  by_cases c : p
  · rw [if_pos (decide_eq_true c)]; exact h1 c
  · rw [if_neg (by rw [decide_eq_false c]; exact Bool.false_ne_true)]; exact h2 c
theorem w_iteN {p A B : Prop} [Decidable p] (h1 : ¬ p → A) (h2 : p → B) : if (!decide p) = true then A else B := by
  by_cases c : p
  · rw [decide_eq_true c]; exact iteF (h2 c)
  · rw [decide_eq_false c]; exact iteT (h1 c)
theorem w_iteB {b : Bool} {A B : Prop} (h1 : b = true → A) (h2 : b = false → B) : if b = true then A else B := by
  cases b with
  | true => exact iteT (h1 rfl)
  | false => exact iteF (h2 rfl)
theorem w_iteNB {b : Bool} {A B : Prop} (h1 : b = false → A) (h2 : b = true → B) : if (!b) = true then A else B := by
  cases b with
  | true => exact iteF (h2 rfl)
  | false => exact iteT (h1 rfl)
theorem w_yes {p A B : Prop} [Decidable p] (c : p) (h : A) : if decide p = true then A else B := w_ite (fun _ => h) fun n => absurd c n
theorem w_no {p A B : Prop} [Decidable p] (c : ¬ p) (h : B) : if decide p = true then A else B := w_ite (fun n => absurd n c) fun _ => h
theorem w_yesN {p A B : Prop} [Decidable p] (c : ¬ p) (h : A) : if (!decide p) = true then A else B := w_iteN (fun _ => h) fun n => absurd n c
theorem w_noN {p A B : Prop} [Decidable p] (c : p) (h : B) : if (!decide p) = true then A else B := w_iteN (fun n => absurd c n) fun _ => h
theorem ite_nT {A B : Prop} (h : B) : if (!true) = true then A else B := iteF h
theorem ite_nF {A B : Prop} (h : A) : if (!false) = true then A else B := iteT h
/-! ### shapes of data -/
def Shp (k : Nat) (d : PyData) : Prop := d.canLay0 = true ∧ d.depth ≤ k
theorem Shp.int {k : Nat} (i : Int) : Shp k (.int i) := ⟨rfl, Nat.zero_le _⟩
theorem Shp.bool {k : Nat} (i : Bool) : Shp k (.bool i) := ⟨rfl, Nat.zero_le _⟩
theorem Shp.none {k : Nat} : Shp k .none := ⟨rfl, Nat.zero_le _⟩
theorem Shp.str {k : Nat} {x : Str} (h : (PyData.str x).canLay0 = true) : Shp k (.str x) := ⟨h, Nat.zero_le _⟩
theorem Shp.all {k : Nat} : ∀ {ds : List PyData}, (∀ d ∈ ds, Shp k d) → PyData.canLayAll0 ds = true ∧ PyData.depthAll ds ≤ k
  | [], _ => ⟨rfl, Nat.zero_le _⟩
  | d :: r, h => by
    obtain ⟨h1, h2⟩ := h d List.mem_cons_self
    obtain ⟨h3, h4⟩ := Shp.all fun x hx => h x (List.mem_cons_of_mem _ hx)
    exact ⟨by rw [PyData.canLayAll0, h1, h3]; rfl, Nat.max_le.mpr ⟨h2, h4⟩⟩
theorem Shp.list {k : Nat} {ds : List PyData} (h : ∀ d ∈ ds, Shp k d) : Shp (k + 1) (.list ds) := ⟨(Shp.all h).1, Nat.succ_le_succ (Shp.all h).2⟩
theorem Shp.tup {k : Nat} {ds : List PyData} (h : ∀ d ∈ ds, Shp k d) : Shp (k + 1) (.tuple ds) := ⟨(Shp.all h).1, Nat.succ_le_succ (Shp.all h).2⟩
theorem Shp.mono {j k : Nat} {d : PyData} (h : Shp j d) (l : j ≤ k) : Shp k d := ⟨h.1, Nat.le_trans h.2 l⟩
theorem Shp.ok {k : Nat} {d : PyData} (h : Shp k d) (l : k ≤ 64) : SeqAt.shaped d = true := Bool.and_eq_true_iff.mpr ⟨h.1, decide_eq_true (Nat.le_trans h.2 l)⟩
/-- a new tuple, a new list -/
def newT (xs : List V) (H : Hp) (Q : VK) : Prop := xs.length ≤ sizeLine ∧ ∀ p, H p = none → Q (.ref p) (upd H p (.tup xs))
def newL (xs : List V) (H : Hp) (Q : VK) : Prop := xs.length ≤ sizeLine ∧ ∀ p, H p = none → Q (.ref p) (upd H p (.lst xs))
theorem w_tup (q : t σ H fun xs H1 => newT xs H1 Q) : tTup t σ H Q := q
theorem w_lst (q : t σ H fun xs H1 => newL xs H1 Q) : tLst t σ H Q := q
theorem sz {n : Nat} (h : n ≤ 100000) : n ≤ sizeLine := Nat.le_trans h (by decide)
theorem szl {n : Nat} (h : n < 100000) : n < sizeLine := Nat.lt_of_lt_of_le h (by decide)
theorem w_newT {xs : List V} {ds : List PyData} (kt : KTok K) (hM : Dom M H) (h : DpAll K (vis M H) xs ds) (hl : xs.length ≤ 100000) (q : ∀ p H', Ext H H' → Dom M H' → Dp K (vis M H') (.ref p) (.tuple ds) → Q (.ref p) H') : newT xs H Q := ⟨sz hl, fun p hp => by
  have e : Ext H (upd H p (.tup xs)) := ext_new hp
  have n := hM.new hp
  refine q p _ e (hM.ext e) (.tup (.inl (.inl ?_)) (dpAllx e h))
  rw [vis_out n, upd_same]⟩
theorem w_newL {xs : List V} {ds : List PyData} (kt : KTok K) (hM : Dom M H) (h : DpAll K (vis M H) xs ds) (hl : xs.length ≤ 100000) (q : ∀ p H', Ext H H' → Dom M H' → Dp K (vis M H') (.ref p) (.list ds) → Q (.ref p) H') : newL xs H Q := ⟨sz hl, fun p hp => by
  have e : Ext H (upd H p (.lst xs)) := ext_new hp
  have n := hM.new hp
  refine q p _ e (hM.ext e) (.lst (.inl (.inl ?_)) (dpAllx e h))
  rw [vis_out n, upd_same]⟩
/-- a new list that will be changed: hidden from now on -/
theorem w_newM {xs : List V} {ds : List PyData} (kt : KTok K) (hM : Dom M H) (h : DpAll K (vis M H) xs ds) (hl : xs.length ≤ 100000) (q : ∀ p H', H p = none → Ext H H' → Dom (p :: M) H' → H' p = some (.lst xs) → DpAll K (vis (p :: M) H') xs ds → Q (.ref p) H') : newL xs H Q := ⟨sz hl, fun p hp => by
  have e : Ext H (upd H p (.lst xs)) := ext_new hp
  refine q p _ hp e ((hM.ext e).cons (some_ne upd_same)) upd_same (dpAll_ext (vis_hide e hp) h)⟩
/-- a new list, raw -/
theorem w_newR {xs : List V} (hl : xs.length ≤ 100000) (q : ∀ p H', H p = none → Ext H H' → H' p = some (.lst xs) → Q (.ref p) H') : newL xs H Q := ⟨sz hl, fun p hp => q p _ hp (ext_new hp) upd_same⟩
theorem w_newTR {xs : List V} (hl : xs.length ≤ 100000) (q : ∀ p H', H p = none → Ext H H' → H' p = some (.tup xs) → Q (.ref p) H') : newT xs H Q := ⟨sz hl, fun p hp => q p _ hp (ext_new hp) upd_same⟩
/-! ### subscripts -/
theorem at_nat {α : Type} {xs : List α} {i : Int} {x : α} (h0 : 0 ≤ i) (h : xs[i.toNat]? = some x) : atI xs i = some x := by
  have e : i = ((i.toNat : Nat) : Int) := by omega
  rw [e]; exact atI_nat h
theorem at_len {α β : Type} {xs : List α} {ys : List β} (e : xs.length = ys.length) {i : Int} {d : β} (h : atI ys i = some d) : ∃ j, ixN xs.length i = some j ∧ ys[j]? = some d := by
  unfold atI at h
  rw [e]
  cases q : ixN ys.length i with
  | none => rw [q] at h; cases h
  | some j => rw [q] at h; exact ⟨j, rfl, h⟩
theorem dp_at {G : Hp} {xs : List V} {ds : List PyData} {i : Int} {d : PyData} (r : DpAll K G xs ds) (h : atI ds i = some d) : ∃ v, atI xs i = some v ∧ Dp K G v d := by
  obtain ⟨j, h1, h2⟩ := at_len (dpAll_len r) h
  obtain ⟨v, h3, h4⟩ := dpAll_get r h2
  refine ⟨v, ?_, h4⟩
  unfold atI
  rw [h1]; exact h3
theorem w_ixL {a : V} {ds : List PyData} {i : Int} {d : PyData} (h : Dp K (vis M H) a (.list ds)) (g : atI ds i = some d) (q : ∀ v, Dp K (vis M H) v d → Q v H) : rIxL K a (.int i) H Q := by
  obtain ⟨p, vs, rfl, h1, h2⟩ := dp_list h
  obtain ⟨v, h3, h4⟩ := dp_at h2 g
  exact ⟨p, vs, i, v, rfl, rfl, sqlv h1, h3, q v h4⟩
theorem w_ixT {a : V} {ds : List PyData} {i : Int} {d : PyData} (h : Dp K (vis M H) a (.tuple ds)) (g : atI ds i = some d) (q : ∀ v, Dp K (vis M H) v d → Q v H) : rIxT K a (.int i) H Q := by
  obtain ⟨p, vs, rfl, h1, h2⟩ := dp_tup h
  obtain ⟨v, h3, h4⟩ := dp_at h2 g
  exact ⟨p, vs, i, v, rfl, rfl, sqtv h1, h3, q v h4⟩
/-- a raw list -/
theorem w_ixR {p : Addr} {xs : List V} {i : Int} (h : H p = some (.lst xs)) (g : atI xs i = some v) (q : Q v H) : rIxL K (.ref p) (.int i) H Q := ⟨p, xs, i, v, rfl, rfl, .inl (.inl h), g, q⟩
theorem w_ixS {z : Str} {i : Int} {c : Nat} (hl : z.length ≤ 100000) (g : atI z.cps.toList i = some c) (q : Q (.str ⟨#[c]⟩) H) : rIxS (.str z) (.int i) H Q := ⟨z, i, c, rfl, rfl, sz hl, g, q⟩
theorem len_dp {a : V} {ds : List PyData} (h : Dp K (vis M H) a (.list ds) ∨ Dp K (vis M H) a (.tuple ds)) : ∃ p ys, a = .ref p ∧ (SqL K H p ys ∨ SqT K H p ys) ∧ ys.length = ds.length ∧ DpAll K (vis M H) ys ds := by
  rcases h with h | h
  · obtain ⟨p, vs, rfl, h1, h2⟩ := dp_list h
    exact ⟨p, vs, rfl, .inl (sqlv h1), dpAll_len h2, h2⟩
  · obtain ⟨p, vs, rfl, h1, h2⟩ := dp_tup h
    exact ⟨p, vs, rfl, .inr (sqtv h1), dpAll_len h2, h2⟩
/-! ### the built-ins' readings, by name -/
def rLenQ (K : PySem.W.Frag) : List V → Hp → VK → Prop := fun xs H Q => ∃ p ys, xs = [.ref p] ∧ (SqL K H p ys ∨ SqT K H p ys) ∧ Q (.int ys.length) H
def rLenZ : List V → Hp → VK → Prop := fun xs H Q => ∃ z, xs = [.str z] ∧ z.length ≤ sizeLine ∧ Q (.int z.length) H
def rAbsI : List V → Hp → VK → Prop := fun xs H Q => ∃ i, xs = [.int i] ∧ Q (.int (if i < 0 then -i else i)) H
def rMaxI : List V → Hp → VK → Prop := fun xs H Q => ∃ i j, xs = [.int i, .int j] ∧ Q (.int (if j > i then j else i)) H
def rMinI : List V → Hp → VK → Prop := fun xs H Q => ∃ i j, xs = [.int i, .int j] ∧ Q (.int (if j < i then j else i)) H
def rIntI : List V → Hp → VK → Prop := fun xs H Q => (∃ i, xs = [.int i] ∧ Q (.int i) H) ∨ ∃ k, xs = [.bl k] ∧ Q (.int (if k then 1 else 0)) H
def rStrI : List V → Hp → VK → Prop := fun xs H Q => ∃ i, xs = [.int i] ∧ i.natAbs.log2 < 1920 ∧ Q (.str (toString i)) H
def rIntZ : List V → Hp → VK → Prop := fun xs H Q => ∃ a n, xs = [.str a] ∧ PySem.intText? a = some n ∧ a.length ≤ 640 ∧ Q (.int n) H
def rListO (K : PySem.W.Frag) : List V → Hp → VK → Prop := fun xs H Q => ∃ p ys, xs = [.ref p] ∧ (SqL K H p ys ∨ SqT K H p ys) ∧ ∀ l, H l = none → Q (.ref l) (upd H l (.lst ys))
def rTupO (K : PySem.W.Frag) : List V → Hp → VK → Prop := fun xs H Q => ∃ p ys, xs = [.ref p] ∧ ((SqL K H p ys ∧ ∀ l, H l = none → Q (.ref l) (upd H l (.tup ys))) ∨ (SqT K H p ys ∧ Q (.ref p) H))
def rAddZ : R2 := fun x y H Q => ∃ i j, x = .str i ∧ y = .str j ∧ i.length + j.length ≤ sizeLine ∧ Q (.str (i ++ j)) H
def rInSg : R2 := fun x y H Q => ∃ (c : Nat) (z : Str), x = .str ⟨#[c]⟩ ∧ y = .str z ∧ Q (.bl (decide (c ∈ z.cps.toList))) H
def rNiSg : R2 := fun x y H Q => ∃ (c : Nat) (z : Str), x = .str ⟨#[c]⟩ ∧ y = .str z ∧ Q (.bl (!decide (c ∈ z.cps.toList))) H
def rIsNn : R2 := fun x y H Q => y = .non ∧ Q (.bl (decide (x = .non))) H
def rNoNn : R2 := fun x y H Q => y = .non ∧ Q (.bl (!decide (x = .non))) H
def rSplitZ : V → List V → Hp → VK → Prop := fun x xs H Q => ∃ a b, x = .str a ∧ xs = [.str b] ∧ (b.length == 0) = false ∧ a.length + 2 ≤ sizeLine ∧ rNewStrs (Txt.split a b) H Q
def rPartZ : V → List V → Hp → VK → Prop := fun x xs H Q => ∃ a b, x = .str a ∧ xs = [.str b] ∧ (b.length == 0) = false ∧ a.length ≤ sizeLine ∧
  ∀ p, H p = none → Q (.ref p) (upd H p (.tup [.str (Txt.partition a b).1, .str (Txt.partition a b).2.1, .str (Txt.partition a b).2.2]))
def rJoinZ (K : PySem.W.Frag) : V → List V → Hp → VK → Prop := fun x xs H Q => ∃ a p, ∃ ys : List Str, x = .str a ∧ xs = [.ref p] ∧ (SqL K H p (ys.map V.str) ∨ SqT K H p (ys.map V.str)) ∧
  (ys.map (·.length)).sum + ys.length * a.length ≤ 16777216 ∧ Q (.str (Txt.join a ys)) H
section
variable {X : Cx}
theorem cn_len : CallR X (.builtin "len") (rLenQ X.K) := call_len_seq
theorem cn_lenZ : CallR X (.builtin "len") rLenZ := call_len_str
theorem cn_abs : CallR X (.builtin "abs") rAbsI := call_abs
theorem cn_max (hc : X.calm = true) : CallR X (.builtin "max") rMaxI := call_max2 hc
theorem cn_min (hc : X.calm = true) : CallR X (.builtin "min") rMinI := call_min2 hc
theorem cn_int : CallR X (.type "int") rIntI := call_int1
theorem cn_str : CallR X (.type "str") rStrI := call_str_int
theorem cn_intZ : CallR X (.type "int") rIntZ := call_int_str
theorem cn_list : CallR X (.type "list") (rListO X.K) := call_list_of
theorem cn_tuple : CallR X (.type "tuple") (rTupO X.K) := call_tuple_of
theorem on_addZ : OpR X (binaryOp .Add) rAddZ := op_add_str
theorem on_inSg : OpR X (compareOp .In) rInSg := op_in_sign
theorem on_niSg : OpR X (compareOp .NotIn) rNiSg := op_notIn_sign
theorem on_isN : OpR X (compareOp .Is) rIsNn := op_isN
theorem on_noN : OpR X (compareOp .IsNot) rNoNn := op_notN
variable {o e : Expr} {to te : TE}
theorem pn_split {apos pos : Pos} (ho : PE X o to) (he : PE X e te) (hs : starEach [e] X.env = [(false, eval e X.env)] := by rfl) (hb : attributeBase o "split" X.env (eval o X.env) = eval o X.env := by rfl) (hl : (apos.endLine == pos.line) = true := by rfl) :
    PE X (.Call (.Attribute o "split" apos) [e] [] pos) (tM1 rSplitZ to te) := pe_split ho he hs hb hl
theorem pn_part {apos pos : Pos} (ho : PE X o to) (he : PE X e te) (hs : starEach [e] X.env = [(false, eval e X.env)] := by rfl) (hb : attributeBase o "partition" X.env (eval o X.env) = eval o X.env := by rfl) (hl : (apos.endLine == pos.line) = true := by rfl) :
    PE X (.Call (.Attribute o "partition" apos) [e] [] pos) (tM1 rPartZ to te) := pe_partition ho he hs hb hl
theorem pn_join {apos pos : Pos} (ho : PE X o to) (he : PE X e te) (hs : starEach [e] X.env = [(false, eval e X.env)] := by rfl) (hb : attributeBase o "join" X.env (eval o X.env) = eval o X.env := by rfl) (hl : (apos.endLine == pos.line) = true := by rfl) :
    PE X (.Call (.Attribute o "join" apos) [e] [] pos) (tM1 (rJoinZ X.K) to te) := pe_join ho he hs hb hl
end
theorem w_m1 {r : V → List V → Hp → VK → Prop} {to : TE} (q : to σ H fun x H1 => (∃ a, x = .str a) ∧ te σ H1 fun y H2 => r x [y] H2 Q) : tM1 r to te σ H Q := q
theorem w_isS {a : Str} {P : Prop} (q : P) : (∃ b, V.str a = .str b) ∧ P := ⟨⟨a, rfl⟩, q⟩
theorem w_lenL {a : V} {ds : List PyData} (h : Dp K (vis M H) a (.list ds)) (q : Q (.int (ds.length : Int)) H) : rLenQ K [a] H Q := by
  obtain ⟨p, ys, rfl, h1, h2, _⟩ := len_dp (.inl h)
  exact ⟨p, ys, rfl, h1, by rw [h2]; exact q⟩
theorem w_lenT {a : V} {ds : List PyData} (h : Dp K (vis M H) a (.tuple ds)) (q : Q (.int (ds.length : Int)) H) : rLenQ K [a] H Q := by
  obtain ⟨p, ys, rfl, h1, h2, _⟩ := len_dp (.inr h)
  exact ⟨p, ys, rfl, h1, by rw [h2]; exact q⟩
theorem w_lenZ {z : Str} (hl : z.length ≤ 100000) (q : Q (.int (z.length : Int)) H) : rLenZ [.str z] H Q := ⟨z, rfl, sz hl, q⟩
theorem w_lenR {p : Addr} {xs : List V} (h : SqL K H p xs) (q : Q (.int (xs.length : Int)) H) : rLenQ K [.ref p] H Q := ⟨p, xs, rfl, .inl h, q⟩
theorem w_abs {i : Int} (q : Q (.int (if i < 0 then -i else i)) H) : rAbsI [.int i] H Q := ⟨i, rfl, q⟩
theorem w_max {i j : Int} (q : Q (.int (if j > i then j else i)) H) : rMaxI [.int i, .int j] H Q := ⟨i, j, rfl, q⟩
theorem w_min {i j : Int} (q : Q (.int (if j < i then j else i)) H) : rMinI [.int i, .int j] H Q := ⟨i, j, rfl, q⟩
theorem w_intI {i : Int} (q : Q (.int i) H) : rIntI [.int i] H Q := .inl ⟨i, rfl, q⟩
theorem w_intB {b : Bool} (q : Q (.int (if b = true then 1 else 0)) H) : rIntI [.bl b] H Q := .inr ⟨b, rfl, q⟩
theorem w_strI {i : Int} (h : i.natAbs.log2 < 1920) (q : Q (.str (toString i)) H) : rStrI [.int i] H Q := ⟨i, rfl, h, q⟩
theorem w_intZ {a : Str} {n : Int} (h : PySem.intText? a = some n) (hl : a.length ≤ 640) (q : Q (.int n) H) : rIntZ [.str a] H Q := ⟨a, n, rfl, h, hl, q⟩
theorem w_addZ {i j : Str} (h : i.length + j.length ≤ 100000) (q : Q (.str (i ++ j)) H) : rAddZ (.str i) (.str j) H Q := ⟨i, j, rfl, rfl, sz h, q⟩
theorem w_inSg {c : Nat} {z : Str} (q : Q (.bl (decide (c ∈ z.cps.toList))) H) : rInSg (.str ⟨#[c]⟩) (.str z) H Q := ⟨c, z, rfl, rfl, q⟩
theorem w_niSg {c : Nat} {z : Str} (q : Q (.bl (!decide (c ∈ z.cps.toList))) H) : rNiSg (.str ⟨#[c]⟩) (.str z) H Q := ⟨c, z, rfl, rfl, q⟩
theorem w_isNn {x : V} (q : Q (.bl (decide (x = .non))) H) : rIsNn x .non H Q := ⟨rfl, q⟩
theorem w_noNn {x : V} (q : Q (.bl (!decide (x = .non))) H) : rNoNn x .non H Q := ⟨rfl, q⟩
theorem w_split {a b : Str} (kt : KTok K) (hM : Dom M H) (hb : (b.length == 0) = false) (ha : a.length ≤ 100000) (q : ∀ p H', Ext H H' → Dom M H' → Dp K (vis M H') (.ref p) (.list ((Txt.split a b).map PyData.str)) → Q (.ref p) H') : rSplitZ (.str a) [.str b] H Q := by
  refine ⟨a, b, rfl, rfl, hb, Nat.le_trans (Nat.add_le_add_right ha 2) (by decide), fun p hp => ?_⟩
  have e : Ext H (upd H p (.lst ((Txt.split a b).map V.str))) := ext_new hp
  refine q p _ e (hM.ext e) (.lst (.inl (.inl ?_)) (dpAll_strs _))
  rw [vis_out (hM.new hp), upd_same]
theorem w_partZ {a b : Str} (kt : KTok K) (hM : Dom M H) (hb : (b.length == 0) = false) (ha : a.length ≤ 100000)
    (q : ∀ p H', Ext H H' → Dom M H' → Dp K (vis M H') (.ref p) (.tuple [.str (Txt.partition a b).1, .str (Txt.partition a b).2.1, .str (Txt.partition a b).2.2]) → Q (.ref p) H') : rPartZ (.str a) [.str b] H Q := by
  refine ⟨a, b, rfl, rfl, hb, sz ha, fun p hp => ?_⟩
  have e : Ext H (upd H p (.tup [.str (Txt.partition a b).1, .str (Txt.partition a b).2.1, .str (Txt.partition a b).2.2])) := ext_new hp
  refine q p _ e (hM.ext e) (.tup (.inl (.inl ?_)) (.cons (.str _) (.cons (.str _) (.cons (.str _) .nil))))
  rw [vis_out (hM.new hp), upd_same]
theorem w_join {a : Str} {x : V} (ys : List Str) (h : Dp K (vis M H) x (.list (ys.map PyData.str))) (hl : (ys.map (·.length)).sum + ys.length * a.length ≤ 16777216) (q : Q (.str (Txt.join a ys)) H) : rJoinZ K (.str a) [x] H Q := by
  obtain ⟨p, vs, rfl, h1, h2⟩ := dp_list h
  cases strs_of_dp h2
  exact ⟨a, p, ys, rfl, rfl, .inl (sqlv h1), hl, q⟩
/-- tuple(x) of a list -/
theorem w_tupL {a : V} {ds : List PyData} (hM : Dom M H) (h : Dp K (vis M H) a (.list ds)) (q : ∀ p H', Ext H H' → Dom M H' → Dp K (vis M H') (.ref p) (.tuple ds) → Q (.ref p) H') : rTupO K [a] H Q := by
  obtain ⟨p, ys, rfl, h1, h2⟩ := dp_list h
  refine ⟨p, ys, rfl, .inl ⟨sqlv h1, fun l hl => ?_⟩⟩
  have e : Ext H (upd H l (.tup ys)) := ext_new hl
  refine q l _ e (hM.ext e) (.tup (.inl (.inl ?_)) (dpAllx e h2))
  rw [vis_out (hM.new hl), upd_same]
/-- == of data -/
theorem w_eqD {x y : V} {d e : PyData} (h : Dp K (vis M H) x d) (h' : Dp K (vis M H) y e) (s1 : SeqAt.shaped d = true) (s2 : SeqAt.shaped e = true) (q : Q (.bl (PyData.eqv d e)) H) : rEqD K x y H Q :=
  ⟨d, e, dp_ext (vis_le M H) h, dp_ext (vis_le M H) h', s1, s2, q⟩
theorem w_neD {x y : V} {d e : PyData} (h : Dp K (vis M H) x d) (h' : Dp K (vis M H) y e) (s1 : SeqAt.shaped d = true) (s2 : SeqAt.shaped e = true) (q : Q (.bl (!PyData.eqv d e)) H) : rNeD K x y H Q :=
  ⟨d, e, dp_ext (vis_le M H) h, dp_ext (vis_le M H) h', s1, s2, q⟩
theorem w_eqSame {x y : V} {d : PyData} {k : Nat} (h : Dp K (vis M H) x d) (h' : Dp K (vis M H) y d) (s : Shp k d) (l : k ≤ 64) (q : Q (.bl true) H) : rEqD K x y H Q := w_eqD h h' (s.ok l) (s.ok l) (by rw [SeqAt.eqv_refl d s.1]; exact q)
theorem w_neSame {x y : V} {d : PyData} {k : Nat} (h : Dp K (vis M H) x d) (h' : Dp K (vis M H) y d) (s : Shp k d) (l : k ≤ 64) (q : Q (.bl false) H) : rNeD K x y H Q := w_neD h h' (s.ok l) (s.ok l) (by rw [SeqAt.eqv_refl d s.1]; exact q)
/-! ### slices -/
theorem w_sl {r : V → Option Int → Option Int → Hp → VK → Prop} {tl th : TO} (q : te σ H fun x H1 => tl σ H1 fun l H2 => th σ H2 fun u H3 => r x l u H3 Q) : tSl r te tl th σ H Q := q
theorem w_noPart {Q : Option Int → Hp → Prop} (q : Q none H) : tNoPart σ H Q := q
theorem w_part {Q : Option Int → Hp → Prop} (q : te σ H fun x H1 => ∃ i, x = .int i ∧ Q (some i) H1) : tPart te σ H Q := q
theorem w_int1 {i : Int} {P : Int → Prop} (q : P i) : ∃ j, V.int i = .int j ∧ P j := ⟨i, rfl, q⟩
def cutD {α : Type} (xs : List α) (lo hi : Option Int) : List α := (xs.drop (HT.sIx xs.length 0 lo)).take (HT.sIx xs.length xs.length hi - HT.sIx xs.length 0 lo)
theorem dp_cut {G : Hp} {xs : List V} {ds : List PyData} (r : DpAll K G xs ds) (lo hi : Option Int) : DpAll K G (cutV xs lo hi) (cutD ds lo hi) := by
  unfold cutV cutD
  rw [dpAll_len r]
  exact dpAll_take _ (dpAll_drop _ r)
theorem w_slL {a : V} {ds : List PyData} {lo hi : Option Int} (hM : Dom M H) (h : Dp K (vis M H) a (.list ds)) (q : ∀ p H', Ext H H' → Dom M H' → Dp K (vis M H') (.ref p) (.list (cutD ds lo hi)) → Q (.ref p) H') : rSlL K a lo hi H Q := by
  obtain ⟨a', vs, rfl, h1, h2⟩ := dp_list h
  refine ⟨a', vs, rfl, sqlv h1, fun p hp => ?_⟩
  have e : Ext H (upd H p (.lst (cutV vs lo hi))) := ext_new hp
  refine q p _ e (hM.ext e) (.lst (.inl (.inl ?_)) (dpAllx e (dp_cut h2 lo hi)))
  rw [vis_out (hM.new hp), upd_same]
theorem cutD_from {α : Type} (xs : List α) (n : Nat) : cutD xs (some (n : Int)) none = xs.drop n := by
  unfold cutD
  rw [HT.sIx_nat, HT.sIx_none]
  by_cases h : n ≤ xs.length
  · rw [Nat.min_eq_left h]
    exact List.take_of_length_le (by rw [List.length_drop]; omega)
  · rw [Nat.min_eq_right (by omega), List.drop_of_length_le (Nat.le_refl _), List.drop_of_length_le (by omega)]
    exact List.take_nil
theorem cutD_to {α : Type} (xs : List α) (n : Nat) : cutD xs none (some (n : Int)) = xs.take n := by
  unfold cutD
  rw [HT.sIx_nat, HT.sIx_none]
  simp only [List.drop_zero, Nat.sub_zero]
  by_cases h : n ≤ xs.length
  · rw [Nat.min_eq_left h]
  · rw [Nat.min_eq_right (by omega), List.take_of_length_le (Nat.le_refl _), List.take_of_length_le (by omega)]
/-! ### in, not in over flat things -/
theorem w_inL {neg : Bool} {p : Addr} {xs : List V} (h : SqL K H p xs ∨ SqT K H p xs) (hx : flatV x = true) (hf : xs.all flatV = true) (q : Q (.bl (if neg then !inV x xs else inV x xs)) H) : rIn K neg x (.ref p) H Q := ⟨p, xs, rfl, h, hx, hf, q⟩
/-! ### list + list, extend, append of raw lists -/
theorem w_bm {T : String} {r : V → List V → Hp → VK → Prop} {to : TE} (q : to σ H fun x H1 => tyV K T x H1 ∧ t σ H1 fun xs H2 => r x xs H2 Q) : tBM K T r to t σ H Q := q
theorem w_bm0 {T : String} {r : V → List V → Hp → VK → Prop} {to : TE} (q : to σ H fun x H1 => tyV K T x H1 ∧ r x [] H1 Q) : tBM0 K T r to σ H Q := q
theorem ty_lst {p : Addr} {xs : List V} (h : H p = some (.lst xs)) : tyV K "list" (.ref p) H := .inl ⟨rfl, _, .inl (.inl h)⟩
theorem w_app {l : Addr} {xs : List V} (h : H l = some (.lst xs)) (hz : xs.length < 100000) (q : Q .non (upd H l (.lst (xs ++ [y])))) : rAppend (.ref l) [y] H Q := ⟨l, xs, y, rfl, rfl, h, szl hz, q⟩
/-- a list object of the heap and what it holds -/
def Lst (K : PySem.W.Frag) (M : List Addr) (H : Hp) (D : Addr) (ds : List PyData) : Prop := D ∉ M ∧ ∃ acc, H D = some (.lst acc) ∧ DpAll K (vis M H) acc ds
theorem w_catD {ds es : List PyData} {p p' : Addr} (hM : Dom M H) (h1 : Lst K M H p ds) (h2 : Lst K M H p' es) (hz : ds.length + es.length ≤ 100000)
    (q : ∀ p H', Ext H H' → Dom M H' → Lst K M H' p (ds ++ es) → Q (.ref p) H') : rCat (.ref p) (.ref p') H Q := by
  obtain ⟨_, xs, h1, r1⟩ := h1
  obtain ⟨_, zs, h2, r2⟩ := h2
  have e1 := dpAll_len r1
  have e2 := dpAll_len r2
  refine ⟨p, p', xs, zs, rfl, rfl, h1, h2, sz (by omega), fun l hl => ?_⟩
  have e : Ext H (upd H l (.lst (xs ++ zs))) := ext_new hl
  exact q l _ e (hM.ext e) ⟨hM.new hl, _, upd_same, dpAllx e (dpAll_append r1 r2)⟩
/-- list(x) -/
theorem w_listD {a : V} {ds : List PyData} (hM : Dom M H) (h : Dp K (vis M H) a (.list ds) ∨ Dp K (vis M H) a (.tuple ds)) (q : ∀ p H', Ext H H' → Dom M H' → H p = none → Lst K M H' p ds → Q (.ref p) H') : rListO K [a] H Q := by
  obtain ⟨p, ys, rfl, h1, _, h2⟩ := len_dp h
  refine ⟨p, ys, rfl, h1, fun l hl => ?_⟩
  have e : Ext H (upd H l (.lst ys)) := ext_new hl
  exact q l _ e (hM.ext e) hl ⟨hM.new hl, _, upd_same, dpAllx e h2⟩
theorem w_listT {a : V} {ds : List PyData} (hM : Dom M H) (h : Dp K (vis M H) a (.tuple ds)) (q : ∀ p H', Ext H H' → Dom M H' → H p = none → Lst K M H' p ds → Q (.ref p) H') : rListO K [a] H Q := w_listD hM (.inr h) q
theorem w_listL {a : V} {ds : List PyData} (hM : Dom M H) (h : Dp K (vis M H) a (.list ds)) (q : ∀ p H', Ext H H' → Dom M H' → H p = none → Lst K M H' p ds → Q (.ref p) H') : rListO K [a] H Q := w_listD hM (.inl h) q
theorem w_newLst {xs : List V} {ds : List PyData} (kt : KTok K) (hM : Dom M H) (h : DpAll K (vis M H) xs ds) (hl : xs.length ≤ 100000) (q : ∀ p H', Ext H H' → Dom M H' → Lst K M H' p ds → Q (.ref p) H') : newL xs H Q := ⟨sz hl, fun p hp => by
  have e : Ext H (upd H p (.lst xs)) := ext_new hp
  exact q p _ e (hM.ext e) ⟨hM.new hp, _, upd_same, dpAllx e h⟩⟩
end
/-! ## statements -/
section
variable {K : PySem.W.Frag} {σ : L2.St} {H : Hp} {D : Ends} {te tl : TE} {u t w : TS} {v : V} {M : List Addr}
theorem s_asg {i : Nat} (q : te σ H fun x H1 => u D (σ.set i (some x)) H1) : tSeq (tAsg te (gName i)) u D σ H := q
theorem s_asgG {g : TG} (q : te σ H fun x H1 => g x σ H1 (u D)) : tSeq (tAsg te g) u D σ H := q
theorem s_asg1 {i : Nat} {nx : L2.St → Hp → Prop} {rt bk ct} (q : te σ H fun x H1 => nx (σ.set i (some x)) H1) : tAsg te (gName i) ⟨nx, rt, bk, ct⟩ σ H := q
theorem s_asgG1 {g : TG} {nx : L2.St → Hp → Prop} {rt bk ct} (q : te σ H fun x H1 => g x σ H1 nx) : tAsg te g ⟨nx, rt, bk, ct⟩ σ H := q
theorem s_par {i j : Nat} {ta : TA} (q : ta σ H fun vs H1 => ∃ v w, vs = [v, w] ∧ u D ((σ.set i (some v)).set j (some w)) H1) : tSeq (tPar i j ta) u D σ H := q
theorem s_par2 {v w : V} {P : V → V → Prop} (q : P v w) : ∃ a b, [v, w] = [a, b] ∧ P a b := ⟨v, w, rfl, q⟩
theorem s_drop (q : te σ H fun _ H1 => u D σ H1) : tSeq (tDrop te) u D σ H := q
theorem s_drop1 {nx : L2.St → Hp → Prop} {rt bk ct} (q : te σ H fun _ H1 => nx σ H1) : tDrop te ⟨nx, rt, bk, ct⟩ σ H := q
theorem s_ret {nx : L2.St → Hp → Prop} {rt : VK} {bk ct} (q : te σ H rt) : tRet te ⟨nx, rt, bk, ct⟩ σ H := q
theorem s_retN {nx : L2.St → Hp → Prop} {rt : VK} {bk ct} (q : rt .non H) : tRetN ⟨nx, rt, bk, ct⟩ σ H := q
theorem s_retS {nx : L2.St → Hp → Prop} {rt : VK} {bk ct} (q : te σ H rt) : tSeq (tRet te) u ⟨nx, rt, bk, ct⟩ σ H := q
theorem s_next {nx : L2.St → Hp → Prop} {rt bk ct} (q : nx σ H) : tNext ⟨nx, rt, bk, ct⟩ σ H := q
theorem s_nextS (q : u D σ H) : tSeq tNext u D σ H := q
theorem s_seq {nx : L2.St → Hp → Prop} {rt bk ct} (q : t ⟨u ⟨nx, rt, bk, ct⟩, rt, bk, ct⟩ σ H) : tSeq t u ⟨nx, rt, bk, ct⟩ σ H := q
theorem s_if {c : TT} {nx : L2.St → Hp → Prop} {rt bk ct} (q : c σ H fun b H1 => if b = true then t ⟨u ⟨nx, rt, bk, ct⟩, rt, bk, ct⟩ σ H1 else w ⟨u ⟨nx, rt, bk, ct⟩, rt, bk, ct⟩ σ H1) : tSeq (tIfS c t w) u ⟨nx, rt, bk, ct⟩ σ H := q
theorem s_if1 {c : TT} (q : c σ H fun b H1 => if b = true then t D σ H1 else w D σ H1) : tIfS c t w D σ H := q
theorem s_brk {nx : L2.St → Hp → Prop} {rt bk ct} (q : bk σ H) : tBreak ⟨nx, rt, bk, ct⟩ σ H := q
theorem s_cnt {nx : L2.St → Hp → Prop} {rt bk ct} (q : ct σ H) : tCont ⟨nx, rt, bk, ct⟩ σ H := q
/-- a for, from the iterator on -/
def forW (J : It) (g : TG) (tb : TS) (rt : VK) (nx : L2.St → Hp → Prop) (σ : L2.St) (H : Hp) : Prop := ∃ W : Nat → Nat → L2.St → Hp → Prop, (∃ m, W 0 m σ H) ∧ ∀ i m σ H, W i m σ H →
  (J.stop i H ∧ nx σ H) ∨ (J.go i H ∧ ∃ N : L2.St → Hp → Prop, (∀ σ' H', N σ' H' → ∃ m', m' < m ∧ W (i + 1) m' σ' H') ∧ ∀ x H', J.yld i H x H' → g x σ H' fun σ2 H2 => tb ⟨N, rt, nx, N⟩ σ2 H2)
theorem s_for {wi : TI} {g : TG} {tb : TS} {nx : L2.St → Hp → Prop} {rt bk ct} (q : wi σ H fun J H1 => forW J g tb rt (u ⟨nx, rt, bk, ct⟩) σ H1) : tSeq (tFor wi g tb) u ⟨nx, rt, bk, ct⟩ σ H := q
theorem s_for1 {wi : TI} {g : TG} {tb : TS} {nx : L2.St → Hp → Prop} {rt bk ct} (q : wi σ H fun J H1 => forW J g tb rt nx σ H1) : tFor wi g tb ⟨nx, rt, bk, ct⟩ σ H := q
theorem f_it {J : It} {n : Nat} {G : Hp → Prop} {Y : Nat → Hp → V → Hp → Prop} {g : TG} {tb : TS} {rt : VK} {nx : L2.St → Hp → Prop} (W : Walk J n G Y) (Pv : Nat → L2.St → Hp → Prop) (h0 : Pv 0 σ H) (hG : ∀ i σ H, i ≤ n → Pv i σ H → G H)
    (hs : ∀ i x σ H H', i < n → Pv i σ H → Y i H x H' → g x σ H' fun σ2 H2 => tb ⟨Pv (i + 1), rt, nx, Pv (i + 1)⟩ σ2 H2) (hd : ∀ σ H, Pv n σ H → nx σ H) : forW J g tb rt nx σ H :=
  for_it (D := ⟨nx, rt, nx, nx⟩) W Pv h0 hG hs hd
/-- over a list of data that stands -/
theorem f_L {α : Type} {a : Addr} {xs : List V} {g : TG} {tb : TS} {rt : VK} {nx : L2.St → Hp → Prop} (l : List α) (enc : α → PyData) (hL : SqL K (vis M H) a xs) (hds : DpAll K (vis M H) xs (l.map enc)) (Pv : Nat → L2.St → Hp → Prop) (h0 : Pv 0 σ H) (hG : ∀ i σ H', i ≤ l.length → Pv i σ H' → Ext (vis M H) (vis M H'))
    (hs : ∀ i z x σ H', l[i]? = some z → Pv i σ H' → Dp K (vis M H') x (enc z) → g x σ H' fun σ2 H2 => tb ⟨Pv (i + 1), rt, nx, Pv (i + 1)⟩ σ2 H2) (hd : ∀ σ H, Pv l.length σ H → nx σ H) : forW (Itl K a) g tb rt nx σ H := by
  have hlen : xs.length = l.length := by rw [dpAll_len hds, List.length_map]
  refine f_it (walk_list (K := K) (a := a) (xs := xs)) Pv h0 (fun i σ H' hi p => sql_ext (vis_le M H') (sql_ext (hG i σ H' (by omega) p) hL)) ?_ (by rw [hlen]; exact hd)
  intro i x σ' H1 H2 hi p hy
  obtain ⟨rfl, hx⟩ := hy
  have hl : i < l.length := by omega
  have hz : l[i]? = some l[i] := List.getElem?_eq_getElem hl
  obtain ⟨v, h1, h2⟩ := dpAll_get (i := i) (d := enc l[i]) hds (by rw [List.getElem?_map, hz]; rfl)
  rw [hx] at h1
  have h1 := Option.some.inj h1
  subst h1
  exact hs i l[i] x σ' H2 hz p (dp_ext (hG i σ' H2 (by omega) p) h2)
/-- over a range -/
theorem f_R {lo : Int} {n : Nat} {g : TG} {tb : TS} {rt : VK} {nx : L2.St → Hp → Prop} (Pv : Nat → L2.St → Hp → Prop) (h0 : Pv 0 σ H)
    (hs : ∀ (i : Nat) σ H', i < n → Pv i σ H' → g (.int (lo + (i : Int))) σ H' fun σ2 H2 => tb ⟨Pv (i + 1), rt, nx, Pv (i + 1)⟩ σ2 H2) (hd : ∀ σ H, Pv n σ H → nx σ H) : forW (Itr lo n) g tb rt nx σ H := by
  refine f_it (walk_range (lo := lo) (n := n)) Pv h0 (fun _ _ _ _ _ => trivial) ?_ hd
  intro i x σ' H1 H2 hi p hy
  obtain ⟨rfl, rfl⟩ := hy
  exact hs i σ' H2 hi p
/-- over enumerate of a list of data that stands -/
theorem f_E {α : Type} {a : Addr} {xs : List V} {g : TG} {tb : TS} {rt : VK} {nx : L2.St → Hp → Prop} (l : List α) (enc : α → PyData) (hL : SqL K (vis M H) a xs) (hds : DpAll K (vis M H) xs (l.map enc)) (Pv : Nat → L2.St → Hp → Prop) (h0 : Pv 0 σ H) (hG : ∀ i σ H', i ≤ l.length → Pv i σ H' → Ext (vis M H) (vis M H'))
    (hs : ∀ i z x T σ H1 H', l[i]? = some z → Pv i σ H1 → Ext H1 H' → H1 T = none → SqT K H' T [.int (i : Nat), x] → Dp K (vis M H') x (enc z) → g (.ref T) σ H' fun σ2 H2 => tb ⟨Pv (i + 1), rt, nx, Pv (i + 1)⟩ σ2 H2) (hd : ∀ σ H, Pv l.length σ H → nx σ H) : forW (Ite K a) g tb rt nx σ H := by
  have hlen : xs.length = l.length := by rw [dpAll_len hds, List.length_map]
  refine f_it (walk_enum (K := K) (a := a) (xs := xs)) Pv h0 (fun i σ H' hi p => sql_ext (vis_le M H') (sql_ext (hG i σ H' (by omega) p) hL)) ?_ (by rw [hlen]; exact hd)
  intro i x σ' H1 H2 hi p hy
  obtain ⟨T, u, y, rfl, hT, rfl, hu, hx⟩ := hy
  cases hu
  have hl : i < l.length := by omega
  have hz : l[i]? = some l[i] := List.getElem?_eq_getElem hl
  obtain ⟨v, h1, h2⟩ := dpAll_get (i := i) (d := enc l[i]) hds (by rw [List.getElem?_map, hz]; rfl)
  have hx : xs[i]? = some y := hx
  rw [hx] at h1
  have h1 := Option.some.inj h1
  subst h1
  exact hs i l[i] y T σ' H1 _ hz p (ext_new hT) hT (.inl (.inl upd_same)) (dpx (ext_new hT) (dp_ext (hG i σ' H1 (by omega) p) h2))
/-! ### targets -/
theorem g_name {i : Nat} {Q : L2.St → Hp → Prop} (q : Q (σ.set i (some v)) H) : gName i v σ H Q := q
theorem g_raw2 {i j : Nat} {a : Addr} {v1 v2 : V} {Q : L2.St → Hp → Prop} (h : SqT K H a [v1, v2]) (q : Q ((σ.set i (some v1)).set j (some v2)) H) :
    gTup K 2 (gCons (gName i) (gCons (gName j) gNil)) (.ref a) σ H Q := ⟨a, _, rfl, h, rfl, _, _, rfl, _, _, rfl, rfl, q⟩
theorem g_tup2 {i j : Nat} {d1 d2 : PyData} {x : V} {Q : L2.St → Hp → Prop} (h : Dp K (vis M H) x (.tuple [d1, d2])) (q : ∀ v1 v2, Dp K (vis M H) v1 d1 → Dp K (vis M H) v2 d2 → Q ((σ.set i (some v1)).set j (some v2)) H) :
    gTup K 2 (gCons (gName i) (gCons (gName j) gNil)) x σ H Q := by
  obtain ⟨a, vs, rfl, h1, h2⟩ := dp_tup h
  cases h2 with
  | cons r1 h2 =>
    cases h2 with
    | cons r2 h2 =>
      cases h2
      exact g_raw2 (sqtv h1) (q _ _ r1 r2)
theorem g_tup3 {i j k : Nat} {d1 d2 d3 : PyData} {x : V} {Q : L2.St → Hp → Prop} (h : Dp K (vis M H) x (.tuple [d1, d2, d3])) (q : ∀ v1 v2 v3, Dp K (vis M H) v1 d1 → Dp K (vis M H) v2 d2 → Dp K (vis M H) v3 d3 → Q (((σ.set i (some v1)).set j (some v2)).set k (some v3)) H) :
    gTup K 3 (gCons (gName i) (gCons (gName j) (gCons (gName k) gNil))) x σ H Q := by
  obtain ⟨a, vs, rfl, h1, h2⟩ := dp_tup h
  cases h2 with
  | cons r1 h2 =>
    cases h2 with
    | cons r2 h2 =>
      cases h2 with
      | cons r3 h2 =>
        cases h2
        exact ⟨a, _, rfl, sqtv h1, rfl, _, _, rfl, _, _, rfl, _, _, rfl, rfl, q _ _ _ r1 r2 r3⟩
end
/-! ### what is walked -/
section
variable {K : PySem.W.Frag} {σ : L2.St} {H : Hp} {M : List Addr} {R : It → Hp → Prop} {tl : TE} {ta : TA}
def iListR (K : PySem.W.Frag) (x : V) (H : Hp) (R : It → Hp → Prop) : Prop := ∃ a, x = .ref a ∧ (∃ xs, SqL K H a xs) ∧ R (Itl K a) H
def iTupR (K : PySem.W.Frag) (x : V) (H : Hp) (R : It → Hp → Prop) : Prop := ∃ a, x = .ref a ∧ (∃ xs, SqT K H a xs) ∧ R (Itt K a) H
def iStrR (x : V) (H : Hp) (R : It → Hp → Prop) : Prop := ∃ z, x = .str z ∧ R (Its z) H
def iRngR (vs : List V) (H : Hp) (R : It → Hp → Prop) : Prop := ∃ j : Int, vs = [.int j] ∧ -(2 ^ 62) ≤ j ∧ j < 2 ^ 62 ∧ R (Itr 0 j.toNat) H
def iRng2R (vs : List V) (H : Hp) (R : It → Hp → Prop) : Prop := ∃ i j : Int, vs = [.int i, .int j] ∧ (-(2 ^ 62) ≤ i ∧ i < 2 ^ 62 ∧ -(2 ^ 62) ≤ j ∧ j < 2 ^ 62) ∧ R (Itr i (j - i).toNat) H
def iEnumR (K : PySem.W.Frag) (vs : List V) (H : Hp) (R : It → Hp → Prop) : Prop := ∃ a xs, vs = [.ref a] ∧ SqL K H a xs ∧ R (Ite K a) H
def iZipR (K : PySem.W.Frag) (vs : List V) (H : Hp) (R : It → Hp → Prop) : Prop := ∃ a b xs ys, vs = [.ref a, .ref b] ∧ SqL K H a xs ∧ SqL K H b ys ∧ R (Itz K a b) H
theorem i_list (q : tl σ H fun x H1 => iListR K x H1 R) : iList K tl σ H R := q
theorem i_tup (q : tl σ H fun x H1 => iTupR K x H1 R) : iTup K tl σ H R := q
theorem i_str (q : tl σ H fun v H1 => iStrR v H1 R) : iStr tl σ H R := q
theorem i_rng1 (q : ta σ H fun vs H1 => iRngR vs H1 R) : iRng1 ta σ H R := q
theorem i_rng2 (q : ta σ H fun vs H1 => iRng2R vs H1 R) : iRng2 ta σ H R := q
theorem i_enum (q : ta σ H fun vs H1 => iEnumR K vs H1 R) : iEnum K ta σ H R := q
theorem i_zip (q : ta σ H fun vs H1 => iZipR K vs H1 R) : iZip K ta σ H R := q
theorem i_listD {x : V} {ds : List PyData} (h : Dp K (vis M H) x (.list ds)) (q : ∀ a xs, x = .ref a → SqL K (vis M H) a xs → DpAll K (vis M H) xs ds → R (Itl K a) H) : iListR K x H R := by
  obtain ⟨a, xs, rfl, h1, h2⟩ := dp_list h
  exact ⟨a, rfl, ⟨xs, sqlv h1⟩, q a xs rfl h1 h2⟩
theorem i_tupD {x : V} {ds : List PyData} (h : Dp K (vis M H) x (.tuple ds)) (q : ∀ a xs, x = .ref a → SqT K (vis M H) a xs → DpAll K (vis M H) xs ds → R (Itt K a) H) : iTupR K x H R := by
  obtain ⟨a, xs, rfl, h1, h2⟩ := dp_tup h
  exact ⟨a, rfl, ⟨xs, sqtv h1⟩, q a xs rfl h1 h2⟩
theorem i_strD {x : Str} (q : R (Its x) H) : iStrR (.str x) H R := ⟨x, rfl, q⟩
theorem i_rng1D {n : Int} (h0 : -(2 ^ 62) ≤ n) (h1 : n < 2 ^ 62) (q : R (Itr 0 n.toNat) H) : iRngR [.int n] H R := ⟨n, rfl, h0, h1, q⟩
theorem i_rng2D {a n : Int} (h : -(2 ^ 62) ≤ a ∧ a < 2 ^ 62 ∧ -(2 ^ 62) ≤ n ∧ n < 2 ^ 62) (q : R (Itr a (n - a).toNat) H) : iRng2R [.int a, .int n] H R := ⟨a, n, rfl, h, q⟩
theorem i_enumD {x : V} {ds : List PyData} (h : Dp K (vis M H) x (.list ds)) (q : ∀ a xs, x = .ref a → SqL K (vis M H) a xs → DpAll K (vis M H) xs ds → R (Ite K a) H) : iEnumR K [x] H R := by
  obtain ⟨a, xs, rfl, h1, h2⟩ := dp_list h
  exact ⟨a, xs, rfl, sqlv h1, q a xs rfl h1 h2⟩
theorem i_zipD {x y : V} {ds es : List PyData} (h : Dp K (vis M H) x (.list ds)) (h' : Dp K (vis M H) y (.list es)) (q : ∀ a b xs ys, x = .ref a → y = .ref b → SqL K (vis M H) a xs → SqL K (vis M H) b ys → DpAll K (vis M H) xs ds → DpAll K (vis M H) ys es → R (Itz K a b) H) :
    iZipR K [x, y] H R := by
  obtain ⟨a, xs, rfl, h1, h2⟩ := dp_list h
  obtain ⟨b, ys, rfl, h3, h4⟩ := dp_list h'
  exact ⟨a, b, xs, ys, rfl, sqlv h1, sqlv h3, q a b xs ys rfl rfl h1 h3 h2 h4⟩
end
/-! ### comprehensions over data -/
theorem Lst.dp {K : PySem.W.Frag} {M : List Addr} {H : Hp} {D : Addr} {ds : List PyData} (h : Lst K M H D ds) : Dp K (vis M H) (.ref D) (.list ds) := by
  obtain ⟨n, acc, h1, h2⟩ := h
  exact .lst (.inl (.inl (by rw [vis_out n]; exact h1))) h2
theorem Lst.ext {K : PySem.W.Frag} {M : List Addr} {H H' : Hp} {D : Addr} {ds : List PyData} (h : Lst K M H D ds) (e : Ext H H') : Lst K M H' D ds := by
  obtain ⟨n, acc, h1, h2⟩ := h
  exact ⟨n, acc, e _ _ h1, dpAllx e h2⟩
section
variable {K : PySem.W.Frag} {σ : L2.St} {H H1 : Hp} {M : List Addr} {Q : VK} {g : TG} {tt : TT} {te : TE} {vsl : List Nat} {wi : TI}
/-- a comprehension, from the iterator on -/
def lcW (J : It) (g : TG) (tt : TT) (te : TE) (vsl : List Nat) (σ : L2.St) (H1 : Hp) (Q : VK) : Prop := ∀ D, H1 D = none → ∃ W : Nat → Nat → Hp → Prop, (∃ m, W 0 m (upd H1 D (.lst []))) ∧ ∀ i m H, W i m H →
  (J.stop i H ∧ Q (.ref D) H) ∨ (J.go i H ∧ ∃ Nx : Hp → Prop, (∀ H', Nx H' → ∃ m', m' < m ∧ W (i + 1) m' H') ∧ ∀ x H', J.yld i H x H' → g x (wipe σ vsl) H' fun σ2 H2 => wipe σ2 vsl = wipe σ vsl ∧ tt σ2 H2 fun b H3 =>
    if b = true then te σ2 H3 fun y H4 => ∃ acc, H4 D = some (.lst acc) ∧ acc.length < sizeLine ∧ Nx (upd H4 D (.lst (acc ++ [y]))) else Nx H3)
theorem w_lc (q : wi σ H fun J H1 => lcW J g tt te vsl σ H1 Q) : tLc wi g tt te vsl σ H Q := q
/-- n turns; what the i-th gives is f i; nothing else is changed -/
theorem lc_core' {J : It} {n : Nat} {G : Hp → Prop} {Y : Nat → Hp → V → Hp → Prop} (W : Walk J n G Y) (f : Nat → Option PyData) (hn : n < 100000) (hM : Dom M H1) (hG : ∀ H2, Ext H1 H2 → G H2)
    (turn : ∀ (D : Addr) (i : Nat) (x : V) (H2 H3 : Hp), i < n → Ext H1 H2 → Dom (D :: M) H2 → H1 D = none → Y i H2 x H3 → ∀ (Ky : V → Hp → Prop) (Kn : Hp → Prop),
      (∀ y H' d, f i = some d → Ext H2 H' → Dp K (vis (D :: M) H') y d → Ky y H') → (f i = none → ∀ H', Ext H2 H' → Kn H') →
      g x (wipe σ vsl) H3 fun σ2 H4 => wipe σ2 vsl = wipe σ vsl ∧ tt σ2 H4 fun b H5 => if b = true then te σ2 H5 Ky else Kn H5)
    (q : ∀ D H', Ext H1 H' → Dom M H' → H1 D = none → Lst K M H' D ((List.range n).filterMap f) → Q (.ref D) H') :
    lcW (J) g tt te vsl σ H1 Q := by
  intro D hD
  have hDM : D ∉ M := hM.new hD
  refine lc_it W (fun i H => ∃ acc, H D = some (.lst acc) ∧ Ext H1 H ∧ acc.length ≤ i ∧ DpAll K (vis (D :: M) H) acc ((List.range i).filterMap f)) ⟨[], upd_same, ext_new hD, Nat.le_refl _, .nil⟩ (fun i H _ ⟨_, _, e, _⟩ => hG H e) ?_ ?_
  · intro i x H2 H3 hi ⟨acc, h1, h2, h3, h4⟩ hy
    have dm : Dom (D :: M) H2 := (hM.ext h2).cons (some_ne h1)
    refine turn D i x H2 H3 hi h2 dm hD hy _ _ (fun y H' d hf e hd => ⟨acc, e _ _ h1, szl (by omega), acc ++ [y], upd_same, ext_mut (h2.trans e) hD, by rw [List.length_append]; show acc.length + 1 ≤ i + 1; omega, ?_⟩) (fun hf H' e => ⟨acc, e _ _ h1, h2.trans e, by omega, ?_⟩)
    · rw [vis_upd List.mem_cons_self, List.range_succ, List.filterMap_append]
      refine dpAll_append (dpAllx e h4) ?_
      simp only [List.filterMap_cons, List.filterMap_nil, hf]
      exact .cons hd .nil
    · rw [List.range_succ, List.filterMap_append]
      simp only [List.filterMap_cons, List.filterMap_nil, hf, List.append_nil]
      exact dpAllx e h4
  · intro H ⟨acc, h1, h2, h3, h4⟩
    exact q D H h2 (hM.ext h2) hD ⟨hDM, acc, h1, dpAll_ext (vis_cons M H D) h4⟩
theorem range_filterMap {α β : Type} (f : α → Option β) : ∀ (ds : List α), (List.range ds.length).filterMap (fun i => ds[i]?.bind f) = ds.filterMap f
  | [] => rfl
  | a :: r => by
    rw [List.length_cons, List.range_succ_eq_map, List.filterMap_cons, List.filterMap_map]
    have ih := range_filterMap f r
    have e : ((fun i => (a :: r)[i]?.bind f) ∘ Nat.succ) = fun i => r[i]?.bind f := by
      funext i; simp
    rw [e, ih, List.filterMap_cons]
    simp
/-- over a list of data: l by its items' data -/
theorem lc_L {α : Type} {a : Addr} {xs : List V} (l : List α) (enc : α → PyData) (f : α → Option PyData) (hn : l.length < 100000) (hM : Dom M H1) (hL : SqL K (vis M H1) a xs) (hds : DpAll K (vis M H1) xs (l.map enc))
    (turn : ∀ (D : Addr) (i : Nat) (z : α) (x : V) (H2 : Hp), l[i]? = some z → Ext H1 H2 → Dom (D :: M) H2 → H1 D = none → Dp K (vis (D :: M) H2) x (enc z) → ∀ (Ky : V → Hp → Prop) (Kn : Hp → Prop),
      (∀ y H' d, f z = some d → Ext H2 H' → Dp K (vis (D :: M) H') y d → Ky y H') → (f z = none → ∀ H', Ext H2 H' → Kn H') →
      g x (wipe σ vsl) H2 fun σ2 H4 => wipe σ2 vsl = wipe σ vsl ∧ tt σ2 H4 fun b H5 => if b = true then te σ2 H5 Ky else Kn H5)
    (q : ∀ D H', Ext H1 H' → Dom M H' → H1 D = none → Lst K M H' D (l.filterMap f) → Q (.ref D) H') :
    lcW (Itl K a) g tt te vsl σ H1 Q := by
  have hlen : xs.length = l.length := by rw [dpAll_len hds, List.length_map]
  refine lc_core' (M := M) (K := K) (walk_list (K := K) (a := a) (xs := xs)) (fun i => l[i]?.bind f) (by omega) hM (fun H2 e => sql_ext e (sqlv hL)) ?_ ?_
  · intro D i x H2 H3 hi e dm hD hy Ky Kn k1 k2
    obtain ⟨rfl, hx⟩ := hy
    have hl : i < l.length := by omega
    have hz : l[i]? = some l[i] := List.getElem?_eq_getElem hl
    obtain ⟨v, h1, h2⟩ := dpAll_get (i := i) (d := enc l[i]) hds (by rw [List.getElem?_map, hz]; rfl)
    rw [hx] at h1
    have h1 := Option.some.inj h1
    subst h1
    refine turn D i l[i] x H3 hz e dm hD (dp_ext (vis_hide e hD) h2) Ky Kn (fun y H' d hf => k1 y H' d (by rw [hz]; exact hf)) (fun hf => k2 (by rw [hz]; exact hf))
  · intro D H' e dm hD hd
    rw [hlen, range_filterMap] at hd
    exact q D H' e dm hD hd
/-- over a range -/
theorem lc_R {lo : Int} {n : Nat} (f : Int → Option PyData) (hn : n < 100000) (hM : Dom M H1)
    (turn : ∀ (D : Addr) (i : Nat) (H2 : Hp), i < n → Ext H1 H2 → Dom (D :: M) H2 → H1 D = none → ∀ (Ky : V → Hp → Prop) (Kn : Hp → Prop),
      (∀ y H' d, f (lo + i) = some d → Ext H2 H' → Dp K (vis (D :: M) H') y d → Ky y H') → (f (lo + i) = none → ∀ H', Ext H2 H' → Kn H') →
      g (.int (lo + i)) (wipe σ vsl) H2 fun σ2 H4 => wipe σ2 vsl = wipe σ vsl ∧ tt σ2 H4 fun b H5 => if b = true then te σ2 H5 Ky else Kn H5)
    (q : ∀ D H', Ext H1 H' → Dom M H' → H1 D = none → Lst K M H' D ((List.range n).filterMap fun i => f (lo + (i : Nat))) → Q (.ref D) H') :
    lcW (Itr lo n) g tt te vsl σ H1 Q := by
  refine lc_core' (M := M) (K := K) (walk_range (lo := lo) (n := n)) (fun i => f (lo + (i : Nat))) hn hM (fun _ _ => trivial) ?_ q
  intro D i x H2 H3 hi e dm hD hy Ky Kn k1 k2
  obtain ⟨rfl, rfl⟩ := hy
  exact turn D i H3 hi e dm hD Ky Kn k1 k2
/-- over a text's signs -/
theorem lc_S {z : Str} (f : Nat → Option PyData) (hn : z.length < 100000) (hM : Dom M H1)
    (turn : ∀ (D : Addr) (i c : Nat) (H2 : Hp), z.cps.toList[i]? = some c → Ext H1 H2 → Dom (D :: M) H2 → H1 D = none → ∀ (Ky : V → Hp → Prop) (Kn : Hp → Prop),
      (∀ y H' d, f c = some d → Ext H2 H' → Dp K (vis (D :: M) H') y d → Ky y H') → (f c = none → ∀ H', Ext H2 H' → Kn H') →
      g (.str ⟨#[c]⟩) (wipe σ vsl) H2 fun σ2 H4 => wipe σ2 vsl = wipe σ vsl ∧ tt σ2 H4 fun b H5 => if b = true then te σ2 H5 Ky else Kn H5)
    (q : ∀ D H', Ext H1 H' → Dom M H' → H1 D = none → Lst K M H' D (z.cps.toList.filterMap f) → Q (.ref D) H') :
    lcW (Its z) g tt te vsl σ H1 Q := by
  refine lc_core' (M := M) (K := K) (walk_str (z := z)) (fun i => z.cps.toList[i]?.bind f) hn hM (fun _ _ => trivial) ?_ ?_
  · intro D i x H2 H3 hi e dm hD hy Ky Kn k1 k2
    obtain ⟨rfl, c, hc, rfl⟩ := hy
    have hz : z.cps.toList[i]? = some c := by simpa using hc
    exact turn D i c H3 hz e dm hD Ky Kn (fun y H' d hf => k1 y H' d (by rw [hz]; exact hf)) (fun hf => k2 (by rw [hz]; exact hf))
  · intro D H' e dm hD hd
    have e1 : z.cps.size = z.cps.toList.length := by simp
    rw [e1, range_filterMap] at hd
    exact q D H' e dm hD hd
/-! total ones -/
theorem fm_map {α β : Type} (f : α → β) : ∀ l : List α, l.filterMap (fun x => some (f x)) = l.map f
  | [] => rfl
  | a :: r => by rw [List.filterMap_cons, List.map_cons, fm_map f r]
theorem w_tyes {Q : Bool → Hp → Prop} (q : Q true H) : tYes σ H Q := q
theorem lm_L {α β : Type} {a : Addr} {xs : List V} (l : List α) (enc : α → PyData) (h : α → β) (enc' : β → PyData) (hn : l.length < 100000) (hM : Dom M H1) (hL : SqL K (vis M H1) a xs) (hds : DpAll K (vis M H1) xs (l.map enc))
    (turn : ∀ (D : Addr) (i : Nat) (z : α) (x : V) (H2 : Hp), l[i]? = some z → Ext H1 H2 → Dom (D :: M) H2 → H1 D = none → Dp K (vis (D :: M) H2) x (enc z) → ∀ (Ky : V → Hp → Prop),
      (∀ y H', Ext H2 H' → Dp K (vis (D :: M) H') y (enc' (h z)) → Ky y H') → g x (wipe σ vsl) H2 fun σ2 H4 => wipe σ2 vsl = wipe σ vsl ∧ te σ2 H4 Ky)
    (q : ∀ D H', Ext H1 H' → Dom M H' → H1 D = none → Lst K M H' D ((l.map h).map enc') → Q (.ref D) H') : lcW (Itl K a) g tYes te vsl σ H1 Q := by
  refine lc_L (K := K) (M := M) l enc (fun z => some (enc' (h z))) hn hM hL hds (fun D i z x H2 hz e dm hD hd Ky Kn k1 k2 => ?_) (fun D H' e dm hD hd => ?_)
  · exact turn D i z x H2 hz e dm hD hd Ky fun y H' e' hd' => k1 y H' _ rfl e' hd'
  · rw [fm_map] at hd
    exact q D H' e dm hD (by rw [List.map_map]; exact hd)
theorem lm_R {β : Type} {lo : Int} {n : Nat} (h : Int → β) (enc' : β → PyData) (hn : n < 100000) (hM : Dom M H1)
    (turn : ∀ (D : Addr) (i : Nat) (H2 : Hp), i < n → Ext H1 H2 → Dom (D :: M) H2 → H1 D = none → ∀ (Ky : V → Hp → Prop),
      (∀ y H', Ext H2 H' → Dp K (vis (D :: M) H') y (enc' (h (lo + i))) → Ky y H') → g (.int (lo + i)) (wipe σ vsl) H2 fun σ2 H4 => wipe σ2 vsl = wipe σ vsl ∧ te σ2 H4 Ky)
    (q : ∀ D H', Ext H1 H' → Dom M H' → H1 D = none → Lst K M H' D (((List.range n).map fun i => h (lo + (i : Nat))).map enc') → Q (.ref D) H') : lcW (Itr lo n) g tYes te vsl σ H1 Q := by
  refine lc_R (K := K) (M := M) (fun z => some (enc' (h z))) hn hM (fun D i H2 hi e dm hD Ky Kn k1 k2 => ?_) (fun D H' e dm hD hd => ?_)
  · exact turn D i H2 hi e dm hD Ky fun y H' e' hd' => k1 y H' _ rfl e' hd'
  · rw [fm_map] at hd
    exact q D H' e dm hD (by rw [List.map_map]; exact hd)
theorem lm_S {β : Type} {z : Str} (h : Nat → β) (enc' : β → PyData) (hn : z.length < 100000) (hM : Dom M H1)
    (turn : ∀ (D : Addr) (i c : Nat) (H2 : Hp), z.cps.toList[i]? = some c → Ext H1 H2 → Dom (D :: M) H2 → H1 D = none → ∀ (Ky : V → Hp → Prop),
      (∀ y H', Ext H2 H' → Dp K (vis (D :: M) H') y (enc' (h c)) → Ky y H') → g (.str ⟨#[c]⟩) (wipe σ vsl) H2 fun σ2 H4 => wipe σ2 vsl = wipe σ vsl ∧ te σ2 H4 Ky)
    (q : ∀ D H', Ext H1 H' → Dom M H' → H1 D = none → Lst K M H' D ((z.cps.toList.map h).map enc') → Q (.ref D) H') : lcW (Its z) g tYes te vsl σ H1 Q := by
  refine lc_S (K := K) (M := M) (fun c => some (enc' (h c))) hn hM (fun D i c H2 hc e dm hD Ky Kn k1 k2 => ?_) (fun D H' e dm hD hd => ?_)
  · exact turn D i c H2 hc e dm hD Ky fun y H' e' hd' => k1 y H' _ rfl e' hd'
  · rw [fm_map] at hd
    exact q D H' e dm hD (by rw [List.map_map]; exact hd)
end
end Hf

namespace Hf
open PySem PySem.Spec PyProof.Rows L2
/-! ## rules of our own -/
section
variable {X : Cx} {a b c d : Expr} {ta tb tc td : TE} {pos : Pos}
/-- a op b op' c op'' d -/
def tChain3 (r r' r'' : R2) (ta tb tc td : TE) : TE := fun σ H Q => ta σ H fun x H1 => tb σ H1 fun y H2 => r x y H2 fun z H3 => ∃ k, z = .bl k ∧
  (if k = true then tc σ H3 fun y' H4 => r' y y' H4 fun z' H5 => ∃ k', z' = .bl k' ∧ (if k' = true then td σ H5 fun y'' H6 => r'' y' y'' H6 Q else Q (.bl false) H5) else Q (.bl false) H3)
theorem pe_chain3 {op op' op'' : CmpOp} {r r' r'' : R2} (ho : OpR X (compareOp op) r) (ho' : OpR X (compareOp op') r') (ho'' : OpR X (compareOp op'') r'') (ha : PE X a ta) (hb : PE X b tb) (hc : PE X c tc) (hd : PE X d td)
    (hm : lastMarks [op, op', op''] [b, c, d] = false := by with_unfolding_all rfl) : PE X (.Compare a [op, op', op''] [b, c, d] pos) (tChain3 r r' r'' ta tb tc td) := by
  refine ⟨fun pins s σ H Q I h => ?_⟩
  refine Compare_chain (thn (ha.run pins s σ H _ I h) fun v s1 hx => ?_) hm
  obtain ⟨x, H1, I1, r1, q1⟩ := hx
  refine chain_link (thn (hb.run pins s1 σ H1 _ I1 q1) fun u s2 hy => ?_)
  obtain ⟨y, H2, I2, r2, q2⟩ := hy
  refine thn (ho pins s2 σ H2 x y v u _ I2 r1 r2 q2) fun e s3 hz => ?_
  obtain ⟨z, H3, I3, r3, k, ez, q3⟩ := hz
  subst ez
  cases r3
  refine wpAny_truthy_bool ?_
  cases k with
  | false => exact ite_ff ⟨.bl false, H3, I3, rfl, q3⟩
  | true =>
    refine ite_tt (chain_link (thn (hc.run pins s3 σ H3 _ I3 q3) fun w4 s4 h4 => ?_))
    obtain ⟨y', H4, I4, r4, q4⟩ := h4
    refine thn (ho' pins s4 σ H4 y y' u w4 _ I4 r2 r4 q4) fun e5 s5 h5 => ?_
    obtain ⟨z', H5, I5, r5, k', ez', q5⟩ := h5
    subst ez'
    cases r5
    refine wpAny_truthy_bool ?_
    cases k' with
    | false => exact ite_ff ⟨.bl false, H5, I5, rfl, q5⟩
    | true =>
      refine ite_tt (chain_last (thn (hd.run pins s5 σ H5 _ I5 q5) fun w6 s6 h6 => ?_))
      obtain ⟨y'', H6, I6, r6, q6⟩ := h6
      exact ho'' pins s6 σ H6 y' y'' w4 w6 Q I6 r4 r6 q6
/-- a block cut behind its first statement: one word for all ways -/
def tCutH (t u : TS) : TS := fun D σ H => ∃ Mid : L2.St → Hp → Prop, t { D with nx := Mid } σ H ∧ ∀ σ' H', Mid σ' H' → u D σ' H'
theorem pss_cutH {st : Stmt} {rest : List Stmt} {t u : TS} (h1 : PS X st t) (h2 : PSs X rest u) : PSs X (st :: rest) (tCutH t u) := by
  refine ⟨fun pins s σ H D I h => ?_⟩
  obtain ⟨Mid, q1, q2⟩ := h
  refine wpAny_execs_cons (thn (h1.run pins s σ H { D with nx := Mid } I q1) fun f s1 q => ?_)
  cases f with
  | next =>
    obtain ⟨σ', H', I', m⟩ := q
    exact h2.run pins s1 σ' H' D I' (q2 σ' H' m)
  | ret v => exact q
  | brk => exact q
  | cont => exact q
/-! ### constants of the module -/
theorem pe_gS {x : Str} {z : Str} (hg : Gl X x) (h : ∃ t, X.mg x = some (.str z t)) (hd : (x == ("__debug__" : Str)) = false := by decide) : PE X (.Name x pos) (tC (.str z)) := by
  obtain ⟨t, e⟩ := h
  exact pe_glob hg e ⟨t, rfl⟩ hd
theorem pe_gI {x : Str} {z : Int} (hg : Gl X x) (h : ∃ t, X.mg x = some (.int z t)) (hd : (x == ("__debug__" : Str)) = false := by decide) : PE X (.Name x pos) (tC (.int z)) := by
  obtain ⟨t, e⟩ := h
  exact pe_glob hg e ⟨t, rfl⟩ hd
/-- an object of the module: a class, a table -/
theorem pe_gC {x : Str} {a : Addr} (hg : Gl X x) (h : X.mg x = some (.ref a)) (hd : (x == ("__debug__" : Str)) = false := by decide) : PE X (.Name x pos) (tC (.ref a)) := pe_glob hg h rfl hd
end
/-! ## a def by its name -/
structure OkF (P : Program) (w : World) (K : PySem.W.Frag) (mg : Str → Option Value) (base : Heap) (CX : CXT) (k : Nat) (f : Str) (ps : List Str) (sp : Sp) : Prop where
  ex : ∃ fd, FnOk P w K mg base CX k (He.ga K f) fd ps sp ∧ Binds K fd ps [] ∧ (∀ (s : Shared) (us : List Value), us.length = ps.length → BindsTo s fd ⟨us, []⟩ (ps.zip us)) ∧ ∃ oc od sl, K.lookup (He.ga K f) = some ⟨oc, od, .func fd, sl⟩
  kp : PySem.W.keepIn K (.ref (He.ga K f)) = true
  gl : mg f = some (.ref (He.ga K f))
/-- the def st of the module, as the top has left it -/
structure At (K : PySem.W.Frag) (mg : Str → Option Value) (f : Str) (st : Stmt) : Prop where
  fn : ∃ fd, FunD K f f (defArgs st) (defBody st) (defScope st) [] [] (He.ga K f) fd
  gl : mg f = some (.ref (He.ga K f))
/-- f(..) -/
def tFn (sp : Sp) (E : XK) (t : TA) : TE := fun σ H Q => t σ H fun vs H1 => sp vs H1 Q E
section
variable {X : Cx} {P : Program} {w : World} {K : PySem.W.Frag} {mg : Str → Option Value} {base : Heap}
theorem tCall_tFn {sp : Sp} {E : XK} {t : TA} : tCall sp [] E t = tFn sp E t := by
  funext σ H Q
  unfold tCall tFn
  congr 1
  funext vs H1
  rw [List.append_nil]
theorem pe_callF {CX : CXT} {k : Nat} {f : Str} {ps : List Str} {sp : Sp} {E : XK} {e : Expr} {es : List Expr} {t : TA} {p pos : Pos} (O : OkF X.prog X.w X.K X.mg X.base CX k f ps sp) (hr : Room k X.A) (hg : Gl X f) (hx : Passes CX X E) (h : PA X (e :: es) t)
    (hdb : (f == ("__debug__" : Str)) = false := by decide) (he : starEach (e :: es) X.env = (false, eval e X.env) :: starEach es X.env := by rfl) (hpl : (backTo pos (starEach es X.env)).any (·.1) = false := by rfl) : PE X (.Call (.Name f p) (e :: es) [] pos) (tFn sp E t) := by
  obtain ⟨fd, F, b, b2⟩ := O.ex
  rw [← tCall_tFn]
  exact pe_call F hr hg O.gl O.kp b .nil hx h hdb he hpl
theorem pe_callF0 {CX : CXT} {k : Nat} {f : Str} {ps : List Str} {sp : Sp} {E : XK} {p pos : Pos} (O : OkF X.prog X.w X.K X.mg X.base CX k f ps sp) (hr : Room k X.A) (hg : Gl X f) (hx : Passes CX X E) (hdb : (f == ("__debug__" : Str)) = false := by decide) : PE X (.Call (.Name f p) [] [] pos) (tFn sp E tNil) := by
  obtain ⟨fd, F, b, b2⟩ := O.ex
  rw [← tCall_tFn]
  exact pe_call0 F hr hg O.gl O.kp b .nil hx hdb
/-- THE RULE for a def from which nothing leaves -/
theorem okF0 {f : Str} {st : Stmt} {N ps : List Str} {k : Nat} {sp : Sp} (A : At K mg f st) (S : FnScope N ps (defScope st)) (len : ∀ vs H Q E, sp vs H Q E → vs.length = ps.length)
    (hb : ∀ (kV doc pm : Value) (an : Option Addr) (cdv ct : Value) (us : List Value), us.length = ps.length → bindArgs (PySem.W.fnOf f f (defArgs st) (defBody st) (defScope st) .none kV doc pm an cdv ct) ⟨us, []⟩ = pure (ps.zip us))
    (hbody : ∀ (cdv : Value) (A : Around) (outer : List Env) (s : Shared) (H : Hp) (vs : List V) (Q : VK) (E : XK), Room k (A.deeper (envOfC f (defScope st) s.heap.objs.size (He.ga K f) cdv)) → sp vs H Q E →
      ∃ t, PSs (cxOf CX0 P w K mg base N f (defScope st) (He.ga K f) cdv A outer s H E).nox (defBody st) t ∧ t { nx := fun _ H' => Q .non H', rt := Q } (start N vs) H) : OkF P w K mg base CX0 (k + 1) f ps sp := by
  obtain ⟨fd, F⟩ := A.fn
  refine ⟨⟨fd, F.ok S len fun cdv A outer s H vs Q E hr h => ?_, ?_⟩, F.kp, A.gl⟩
  · obtain ⟨t, h1, h2⟩ := hbody cdv A outer s H vs Q E hr h
    exact ⟨t, h1.nox, h2⟩
  · obtain ⟨oc, od, dV, kV, doc, pm, an, cdv, ct, osl, e, lk, _⟩ := F.ex
    exact ⟨F.bindsN hb, F.bindsA hb, _, _, _, lk⟩
/-- .. and for one that errors may leave -/
theorem okFX {f : Str} {st : Stmt} {N ps : List Str} {k : Nat} {sp : Sp} (A : At K mg f st) (S : FnScope N ps (defScope st)) (len : ∀ vs H Q E, sp vs H Q E → vs.length = ps.length)
    (hb : ∀ (kV doc pm : Value) (an : Option Addr) (cdv ct : Value) (us : List Value), us.length = ps.length → bindArgs (PySem.W.fnOf f f (defArgs st) (defBody st) (defScope st) .none kV doc pm an cdv ct) ⟨us, []⟩ = pure (ps.zip us))
    (hbody : ∀ (cdv : Value) (A : Around) (outer : List Env) (s : Shared) (H : Hp) (vs : List V) (Q : VK) (E : XK), Room k (A.deeper (envOfC f (defScope st) s.heap.objs.size (He.ga K f) cdv)) → sp vs H Q E →
      ∃ t, PSs (cxOf (L2.CX P w) P w K mg base N f (defScope st) (He.ga K f) cdv A outer s H E) (defBody st) t ∧ t { nx := fun _ H' => Q .non H', rt := Q } (start N vs) H) : OkF P w K mg base (L2.CX P w) (k + 1) f ps sp := by
  obtain ⟨fd, F⟩ := A.fn
  refine ⟨⟨fd, F.ok S len hbody, ?_⟩, F.kp, A.gl⟩
  obtain ⟨oc, od, dV, kV, doc, pm, an, cdv, ct, osl, e, lk, _⟩ := F.ex
  exact ⟨F.bindsN hb, F.bindsA hb, _, _, _, lk⟩
theorem OkF.mono {CX : CXT} {j k : Nat} {f : Str} {ps : List Str} {sp : Sp} (O : OkF P w K mg base CX j f ps sp) (h : j ≤ k) : OkF P w K mg base CX k f ps sp := by
  obtain ⟨fd, F, b, b2⟩ := O.ex
  exact ⟨⟨fd, F.mono h, b, b2⟩, O.kp, O.gl⟩
end
section
variable {K : PySem.W.Frag} {σ : L2.St} {H : Hp} {Q : VK} {r r' r'' : R2} {ta tb tc td : TE} {t : TA}
theorem w_fn {sp : Sp} {E : XK} (q : t σ H fun vs H1 => sp vs H1 Q E) : tFn sp E t σ H Q := q
theorem w_chain (q : ta σ H fun x H1 => tb σ H1 fun y H2 => r x y H2 fun z H3 => ∃ k, z = .bl k ∧ (if k = true then tc σ H3 fun w' H4 => r' y w' H4 Q else Q (.bl false) H3)) : tChain r r' ta tb tc σ H Q := q
theorem w_chain3 (q : ta σ H fun x H1 => tb σ H1 fun y H2 => r x y H2 fun z H3 => ∃ k, z = .bl k ∧
  (if k = true then tc σ H3 fun y' H4 => r' y y' H4 fun z' H5 => ∃ k', z' = .bl k' ∧ (if k' = true then td σ H5 fun y'' H6 => r'' y' y'' H6 Q else Q (.bl false) H5) else Q (.bl false) H3)) : tChain3 r r' r'' ta tb tc td σ H Q := q
end
end Hf

namespace Hf
open PySem PySem.Spec PyProof.Rows L2
/-! ## small facts that the steps ask -/
theorem c_mul {i j : Int} (h : (-18446744073709551616 < i ∧ i < 18446744073709551616) ∨ (-18446744073709551616 < j ∧ j < 18446744073709551616)) : CMul i j := by
  unfold CMul
  rcases h with h | h
  · exact .inl ⟨by have := h.1; omega, by have := h.2; omega⟩
  · exact .inr ⟨by have := h.1; omega, by have := h.2; omega⟩
theorem c_div {i j : Int} (h : 0 < j ∧ j < 1073741824) : CDiv i j := h
theorem c_pow {i j : Int} (h : 0 ≤ j ∧ j ≤ 1000000 ∧ i.natAbs < 2 ^ 64) : CPow i j := h
theorem c_mulW {i j : Int} (h : i.natAbs.log2 + j.natAbs.log2 < 1000000) : CMulW i j := h
theorem w_one {α : Type} {a : α} {P : α → Prop} (q : P a) : ∃ i, [a] = [i] ∧ P i := ⟨a, rfl, q⟩
section
variable {K : PySem.W.Frag} {σ : L2.St} {H : Hp} {Q : VK} {M : List Addr} {v x : V}
theorem s_cut {t u : TS} {nx : L2.St → Hp → Prop} {rt bk ct} (Mid : L2.St → Hp → Prop) (h1 : t ⟨Mid, rt, bk, ct⟩ σ H) (h2 : ∀ σ' H', Mid σ' H' → u ⟨nx, rt, bk, ct⟩ σ' H') : tCutH t u ⟨nx, rt, bk, ct⟩ σ H := ⟨Mid, h1, h2⟩
theorem eqV_int (i j : Int) : eqV (.int i) (.int j) = decide (i = j) := by
  show (i == j) = _
  exact Bool.beq_eq_decide_eq i j
theorem eqV_str (i j : Str) : eqV (.str i) (.str j) = decide (i = j) := by
  show (i == j) = _
  exact Bool.beq_eq_decide_eq i j
theorem inV_ints (a : Int) : ∀ ns : List Int, inV (.int a) (ns.map V.int) = decide (a ∈ ns)
  | [] => by simp [inV]
  | n :: r => by
    have ih := inV_ints a r
    unfold inV at ih ⊢
    rw [List.map_cons, List.any_cons, ih, eqV_int]
    by_cases h : n = a
    · subst h; simp
    · have h' : ¬ a = n := fun z => h z.symm
      simp [h, h']
theorem inV_strs (a : Str) : ∀ ns : List Str, inV (.str a) (ns.map V.str) = decide (a ∈ ns)
  | [] => by simp [inV]
  | n :: r => by
    have ih := inV_strs a r
    unfold inV at ih ⊢
    rw [List.map_cons, List.any_cons, ih, eqV_str]
    by_cases h : n = a
    · subst h; simp
    · have h' : ¬ a = n := fun z => h z.symm
      simp [h, h']
theorem flat_ints : ∀ ns : List Int, (ns.map V.int).all flatV = true
  | [] => rfl
  | n :: r => by rw [List.map_cons, List.all_cons, flat_ints r]; rfl
theorem flat_strs : ∀ ns : List Str, (ns.map V.str).all flatV = true
  | [] => rfl
  | n :: r => by rw [List.map_cons, List.all_cons, flat_strs r]; rfl
theorem seq_dp {y : V} {ds : List PyData} (h : Dp K (vis M H) y (.list ds) ∨ Dp K (vis M H) y (.tuple ds)) : ∃ p xs, y = .ref p ∧ (SqL K H p xs ∨ SqT K H p xs) ∧ DpAll K (vis M H) xs ds := by
  obtain ⟨p, ys, h1, h2, _, h3⟩ := len_dp h
  exact ⟨p, ys, h1, h2, h3⟩
theorem w_inI {a : Int} {y : V} (ns : List Int) (h : Dp K (vis M H) y (.list (ns.map PyData.int)) ∨ Dp K (vis M H) y (.tuple (ns.map PyData.int))) (q : Q (.bl (decide (a ∈ ns))) H) : rIn K false (.int a) y H Q := by
  obtain ⟨p, xs, rfl, h1, h2⟩ := seq_dp h
  cases ints_of_dp h2
  refine ⟨p, _, rfl, h1, rfl, flat_ints ns, ?_⟩
  rw [inV_ints]; exact q
theorem w_niI {a : Int} {y : V} (ns : List Int) (h : Dp K (vis M H) y (.list (ns.map PyData.int)) ∨ Dp K (vis M H) y (.tuple (ns.map PyData.int))) (q : Q (.bl (!decide (a ∈ ns))) H) : rIn K true (.int a) y H Q := by
  obtain ⟨p, xs, rfl, h1, h2⟩ := seq_dp h
  cases ints_of_dp h2
  refine ⟨p, _, rfl, h1, rfl, flat_ints ns, ?_⟩
  rw [inV_ints]; exact q
theorem w_inS {a : Str} {y : V} (ns : List Str) (h : Dp K (vis M H) y (.list (ns.map PyData.str)) ∨ Dp K (vis M H) y (.tuple (ns.map PyData.str))) (q : Q (.bl (decide (a ∈ ns))) H) : rIn K false (.str a) y H Q := by
  obtain ⟨p, xs, rfl, h1, h2⟩ := seq_dp h
  cases strs_of_dp h2
  refine ⟨p, _, rfl, h1, rfl, flat_strs ns, ?_⟩
  rw [inV_strs]; exact q
theorem w_niS {a : Str} {y : V} (ns : List Str) (h : Dp K (vis M H) y (.list (ns.map PyData.str)) ∨ Dp K (vis M H) y (.tuple (ns.map PyData.str))) (q : Q (.bl (!decide (a ∈ ns))) H) : rIn K true (.str a) y H Q := by
  obtain ⟨p, xs, rfl, h1, h2⟩ := seq_dp h
  cases strs_of_dp h2
  refine ⟨p, _, rfl, h1, rfl, flat_strs ns, ?_⟩
  rw [inV_strs]; exact q
theorem at_any {α : Type} {xs : List α} {i : Int} (h0 : 0 ≤ i) (h1 : i < xs.length) : ∃ x, atI xs i = some x ∧ x ∈ xs := by
  have h2 : i.toNat < xs.length := by omega
  exact ⟨xs[i.toNat], at_nat h0 (List.getElem?_eq_getElem h2), List.getElem_mem h2⟩
/-- an item at an open place -/
theorem w_ixLa {a : V} {ds : List PyData} {i : Int} (h : Dp K (vis M H) a (.list ds)) (h0 : 0 ≤ i) (h1 : i < ds.length) (q : ∀ v d, d ∈ ds → Dp K (vis M H) v d → Q v H) : rIxL K a (.int i) H Q := by
  obtain ⟨d, g, m⟩ := at_any h0 h1
  exact w_ixL h g fun v hv => q v d m hv
/-- ints at an open place -/
theorem w_ixI {a : V} (ns : List Int) {i : Int} (h : Dp K (vis M H) a (.list (ns.map PyData.int))) (h0 : 0 ≤ i) (h1 : i < ns.length) (q : ∀ n, n ∈ ns → Q (.int n) H) : rIxL K a (.int i) H Q := by
  refine w_ixLa h h0 (by rw [List.length_map]; exact h1) fun v d m hv => ?_
  obtain ⟨n, hn, rfl⟩ := List.mem_map.mp m
  rw [dp_int hv]
  exact q n hn
theorem w_ixInt {a : V} {ds : List PyData} {i j : Int} (h : Dp K (vis M H) a (.list ds)) (g : atI ds i = some (.int j)) (q : Q (.int j) H) : rIxL K a (.int i) H Q := w_ixL h g fun v hv => by rw [dp_int hv]; exact q
theorem w_ixStr {a : V} {ds : List PyData} {i : Int} {j : Str} (h : Dp K (vis M H) a (.list ds)) (g : atI ds i = some (.str j)) (q : Q (.str j) H) : rIxL K a (.int i) H Q := w_ixL h g fun v hv => by rw [dp_str hv]; exact q
theorem w_ixTInt {a : V} {ds : List PyData} {i j : Int} (h : Dp K (vis M H) a (.tuple ds)) (g : atI ds i = some (.int j)) (q : Q (.int j) H) : rIxT K a (.int i) H Q := w_ixT h g fun v hv => by rw [dp_int hv]; exact q
theorem w_ixTStr {a : V} {ds : List PyData} {i : Int} {j : Str} (h : Dp K (vis M H) a (.tuple ds)) (g : atI ds i = some (.str j)) (q : Q (.str j) H) : rIxT K a (.int i) H Q := w_ixT h g fun v hv => by rw [dp_str hv]; exact q
theorem w_ixTR {p : Addr} {xs : List V} {i : Int} (h : H p = some (.tup xs)) (g : atI xs i = some v) (q : Q v H) : rIxT K (.ref p) (.int i) H Q := ⟨p, xs, i, v, rfl, rfl, .inl (.inl h), g, q⟩
/-- xs[i] = e on a raw list -/
theorem g_set {to ti : TE} {Q : L2.St → Hp → Prop} (q : to σ H fun o H1 => ti σ H1 fun i H2 => rSetL o i v H2 fun H3 => Q σ H3) : gSub to ti rSetL v σ H Q := q
theorem w_setL {p : Addr} {xs : List V} {k : Int} {j : Nat} {Q : Hp → Prop} (h : H p = some (.lst xs)) (g : ixN xs.length k = some j) (q : Q (upd H p (.lst (xs.set j v)))) : rSetL (.ref p) (.int k) v H Q := ⟨p, xs, k, j, rfl, rfl, h, g, q⟩
/-- .. the heap behind it a letter -/
theorem w_setB {p : Addr} {xs : List V} {k : Int} {j : Nat} {Q : Hp → Prop} (h : H p = some (.lst xs)) (g : ixN xs.length k = some j) (q : ∀ H', But p H H' → H' p = some (.lst (xs.set j v)) → Q H') : rSetL (.ref p) (.int k) v H Q :=
  w_setL h g (q _ (fun b o n e => by rw [upd_ne n]; exact e) upd_same)
theorem w_appB {p : Addr} {xs : List V} {y : V} (h : H p = some (.lst xs)) (hz : xs.length < 100000) (q : ∀ H', But p H H' → H' p = some (.lst (xs ++ [y])) → Q .non H') : rAppend (.ref p) [y] H Q :=
  w_app h hz (q _ (fun b o n e => by rw [upd_ne n]; exact e) upd_same)
end
theorem c_divW {i j : Int} (h : 0 < j ∧ j < 2 ^ 200) : CDivW i j := wide_div (b := 200) h.1 (by have := h.1; have := h.2; omega) (by decide) (by decide)
theorem start_as {N : List Str} {vs : List V} {σ : L2.St} {t : TS} {D : Ends} {H : Hp} (e : L2.start N vs = σ) (h : t D σ H) : t D (L2.start N vs) H := by rw [e]; exact h
/-- the last step: what a law's def promises is enough -/
theorem law_end {l : PySem.W.OpenLaw} {w : World} {K : PySem.W.Frag} {h : Heap} {mg : Str → Option Value} {k : Nat} {x : Str} {sp : Sp} (KX : K.In h) (G : h.Ns mainGlobals mg)
    (ok : ∀ base : Heap, OkF l.prog w K mg base L2.CX0 k "law" [x] sp) (hin : ∀ (H : Hp) (a : Addr) (ns : List Int), ns.length ≤ 63 → SqL K H a (ns.map V.int) → sp [.ref a] H (fun v _ => v = .bl true) fun _ _ _ => False) :
    ∃ (K' : PySem.W.Frag) (fd : FuncData) (sp : Sp), K'.In h ∧ (∀ (s : Shared) (u : Value), BindsTo s fd ⟨[u], []⟩ [(x, u)]) ∧
      (∀ (H : Hp) (a : Addr) (ns : List Int), ns.length ≤ 63 → Only H → SqL K' H a (ns.map V.int) → sp [.ref a] H (fun v _ => v = .bl true) fun _ _ _ => False) ∧
      ∀ base : Heap, K'.In base → base.Ns mainGlobals mg → FnOk l.prog w K' mg base L2.CX0 k (He.ga K "law") fd [x] sp := by
  obtain ⟨fd, _, _, hb, _, _, _, lk⟩ := (ok h).ex
  refine ⟨K, fd, sp, KX, fun s u => hb s [u] rfl, fun H a ns hl _ hS => hin H a ns hl hS, fun base _ _ => ?_⟩
  obtain ⟨fd', F, _, _, _, _, _, lk'⟩ := (ok base).ex
  rw [lk] at lk'
  cases lk'
  exact F
end Hf

namespace Hf
open PySem PySem.Spec PyProof.Rows L2
/-! ## numbers as texts -/
/-- the text of a number -/
abbrev nz (n : Nat) : Str := Str.ofString (toString ((n : Nat) : Int))
open TL in
theorem nz_tl (n : Nat) : tl (nz n) = numL n := tl_num n
open TL in
theorem nz_len (n : Nat) : (nz n).length = (numL n).length := by rw [len_tl, nz_tl]
open TL in
theorem nz_cps (n : Nat) : (nz n).cps.toList = numL n := nz_tl n
open TL in
theorem nz_ne (n : Nat) : nz n ≠ "" := fun z => by
  have e := congrArg tl z
  rw [nz_tl] at e
  exact numL_ne n e
open TL in
theorem nz_le {n : Nat} (h : n < 10 ^ 40) : (nz n).length ≤ 40 := by
  rw [nz_len]
  exact numL_len (by decide) h
open TL in
/-- a number whose first figure is 0 is 0 -/
theorem numL_zero : ∀ (n : Nat), (numL n)[0]? = some 48 → n = 0 := by
  intro n
  induction n using Nat.strongRecOn with
  | ind n ih =>
    intro h
    by_cases c : n < 10
    · rw [numL_lt c] at h
      simp at h
      omega
    · rw [numL_step (by omega)] at h
      have ne := numL_ne (n / 10)
      have h2 : (numL (n / 10))[0]? = some 48 := by
        cases e : numL (n / 10) with
        | nil => exact absurd e ne
        | cons a r => rw [e] at h; simpa using h
      have := ih (n / 10) (by omega) h2
      omega
open TL in
theorem numL_mem {n c : Nat} (h : c ∈ numL n) : 48 ≤ c ∧ c ≤ 57 := by
  by_cases h1 : c < 48
  · exact absurd h (numL_free (.inl h1))
  · by_cases h2 : 57 < c
    · exact absurd h (numL_free (.inr h2))
    · omega
open TL in
theorem nz_int {n : Nat} (h : n < 10 ^ 40) : PySem.intText? (nz n) = some (n : Int) := int_num (by
  have := numL_len (n := n) (k := 40) (by decide) h
  omega)
theorem rAny_ok {K : PySem.W.Frag} {M : List Addr} {H : Hp} {Q : VK} {x : V} (bs : List Bool) (h : Dp K (vis M H) x (.list (bs.map PyData.bool))) (q : Q (.bl (bs.any id)) H) : rAny K [x] H Q := by
  obtain ⟨p, vs, rfl, h1, h2⟩ := dp_list h
  cases bls_of_dp h2
  exact ⟨p, bs, rfl, sqlv h1, q⟩
theorem figs : ("0123456789" : Str).cps.toList = [48, 49, 50, 51, 52, 53, 54, 55, 56, 57] := by decide +kernel
theorem in_figs {c : Nat} (h : 48 ≤ c ∧ c ≤ 57) : c ∈ ("0123456789" : Str).cps.toList := by
  rw [figs]
  obtain ⟨h1, h2⟩ := h
  rcases (by omega : c = 48 ∨ c = 49 ∨ c = 50 ∨ c = 51 ∨ c = 52 ∨ c = 53 ∨ c = 54 ∨ c = 55 ∨ c = 56 ∨ c = 57) with e | e | e | e | e | e | e | e | e | e <;> subst e <;> decide
open TL in
theorem nz_first {n : Nat} : ∃ c, atI (nz n).cps.toList 0 = some c ∧ (c = 48 → nz n = "0") := by
  rw [nz_cps]
  cases e : numL n with
  | nil => exact absurd e (numL_ne n)
  | cons a r =>
    refine ⟨a, atI_nat (j := 0) rfl, fun h => ?_⟩
    subst h
    have := numL_zero n (by rw [e]; rfl)
    subst this
    decide +kernel
theorem one_sign {c : Nat} (h : (⟨#[c]⟩ : Str) = "0") : c = 48 := by
  have e : (⟨#[c]⟩ : Str).cps = ("0" : Str).cps := congrArg Str.cps h
  have e2 : ("0" : Str).cps = #[48] := by decide +kernel
  rw [e2] at e
  have := congrArg Array.toList e
  simpa using this
theorem log2_small {i : Int} (h : i.natAbs < 2 ^ 1900) : i.natAbs.log2 < 1920 := by
  by_cases c : i.natAbs = 0
  · rw [c]; decide
  · exact Nat.lt_of_lt_of_le (Nat.log2_lt c |>.mpr h) (by decide)
theorem all_filterMap_false {α : Type} (l : List α) (p : α → Bool) (h : ∀ c ∈ l, p c = false) : ((l.map p).any id) = false := by
  induction l with
  | nil => rfl
  | cons a r ih =>
    rw [List.map_cons, List.any_cons, ih fun c hc => h c (List.mem_cons_of_mem _ hc), h a List.mem_cons_self]
    rfl
open TL in
theorem len_app (a b : Str) : (a ++ b).length = a.length + b.length := by
  rw [len_tl, len_tl, len_tl, tl_append, List.length_append]
theorem pz_len (a b : Nat) : (nz a ++ "-" ++ nz b).length = (nz a).length + 1 + (nz b).length := by
  rw [len_app, len_app]
  have : ("-" : Str).length = 1 := by decide +kernel
  rw [this]
theorem app_assoc (a b c : Str) : a ++ b ++ c = a ++ (b ++ c) := TL.ext_tl (by rw [TL.tl_append, TL.tl_append, TL.tl_append, TL.tl_append, List.append_assoc])
open TL in
theorem join2 (s a b : Str) : Txt.join s [a, b] = a ++ s ++ b := by
  rw [join_eq]
  apply ext_tl
  rw [tl_join, tl_append, tl_append]
  show joinL (tl s) [tl a, tl b] = _
  simp [joinL]
open TL in
theorem split_pz (a b : Nat) : Txt.split (nz a ++ "-" ++ nz b) "-" = [nz a, nz b] := by
  rw [← join2 "-" (nz a) (nz b)]
  refine split_join (s := 45) (S := []) (by decide +kernel) (by decide +kernel) (by simp) fun p hp => ?_
  simp only [List.mem_cons, List.not_mem_nil, or_false] at hp
  rcases hp with rfl | rfl <;> (rw [nz_tl]; exact numL_free (.inl (by decide)))
open TL in
theorem joinL_le (s : List Nat) : ∀ ps : List (List Nat), (joinL s ps).length ≤ (ps.map (·.length)).sum + ps.length * s.length
  | [] => Nat.zero_le _
  | [p] => by simp [joinL]
  | p :: p' :: r => by
    have ih := joinL_le s (p' :: r)
    simp only [joinL, List.length_append, List.map_cons, List.sum_cons, List.length_cons] at ih ⊢
    have : (r.length + 1 + 1) * s.length = (r.length + 1) * s.length + s.length := Nat.succ_mul _ _
    omega
open TL in
theorem join_len (s : Str) (ps : List Str) : (Txt.join s ps).length ≤ (ps.map (·.length)).sum + ps.length * s.length := by
  rw [join_eq, len_tl, tl_join, len_tl]
  have := joinL_le (tl s) (ps.map tl)
  rw [List.length_map, List.map_map] at this
  have e : (List.map ((fun x => x.length) ∘ tl) ps) = ps.map (·.length) := by
    apply List.map_congr_left
    intro a _
    rw [len_tl]; rfl
  rw [e] at this
  exact this
theorem sum_leC (c : Nat) : ∀ l : List Nat, (∀ x ∈ l, x ≤ c) → l.sum ≤ l.length * c
  | [], _ => Nat.zero_le _
  | a :: r, h => by
    rw [List.sum_cons, List.length_cons, Nat.succ_mul]
    have h1 := h a List.mem_cons_self
    have h2 := sum_leC c r fun x hx => h x (List.mem_cons_of_mem _ hx)
    omega
theorem pz_le {a b : Nat} (ha : a < 10 ^ 40) (hb : b < 10 ^ 40) : (nz a ++ "-" ++ nz b).length ≤ 81 := by
  have := nz_le ha
  have := nz_le hb
  rw [pz_len]; omega
/-! ### f-strings -/
def jsR (ts : List TE) (acc : Str) (σ : L2.St) (x : V) (H : Hp) (Q : Str → Hp → Prop) : Prop := ∃ y : Str, x = .str y ∧ (acc ++ y).length ≤ sizeLine ∧ tJs ts (acc ++ y) σ H Q
def fmtR (x : V) (H : Hp) (Q : VK) : Prop := (∃ y : Str, x = .str y ∧ y.length ≤ sizeLine ∧ Q (.str y) H) ∨ ∃ i : Int, x = .int i ∧ i.natAbs.log2 < 1920 ∧ Q (.str (toString i)) H
section
variable {σ : L2.St} {H : Hp} {t te : TE} {ts : List TE} {acc : Str}
theorem w_js {Q : Str → Hp → Prop} (q : t σ H fun x H1 => jsR ts acc σ x H1 Q) : tJs (t :: ts) acc σ H Q := q
theorem w_js0 {Q : Str → Hp → Prop} (q : Q acc H) : tJs [] acc σ H Q := q
theorem w_jsS {y : Str} {Q : Str → Hp → Prop} (h : acc.length + y.length ≤ 100000) (q : tJs ts (acc ++ y) σ H Q) : jsR ts acc σ (.str y) H Q := ⟨y, rfl, sz (by rw [len_app]; exact h), q⟩
theorem w_fmt {Q : VK} (q : te σ H fun x H1 => fmtR x H1 Q) : tFmt te σ H Q := q
theorem w_fmtI {i : Int} {Q : VK} (h : i.natAbs.log2 < 1920) (q : Q (.str (toString i)) H) : fmtR (.int i) H Q := .inr ⟨i, rfl, h, q⟩
theorem w_fmtS {y : Str} {Q : VK} (h : y.length ≤ 100000) (q : Q (.str y) H) : fmtR (.str y) H Q := .inl ⟨y, rfl, sz h, q⟩
end
theorem empty_app (y : Str) : Str.empty ++ y = y := TL.ext_tl (by rw [TL.tl_append]; rfl)
theorem nat_log {n : Nat} (h : n < 10 ^ 40) : ((n : Nat) : Int).natAbs.log2 < 1920 := log2_small (by rw [Int.natAbs_natCast]; omega)
theorem w_fmtN {H : Hp} {n : Nat} {Q : VK} (h : n < 10 ^ 40) (q : Q (.str (nz n)) H) : fmtR (.int n) H Q := w_fmtI (nat_log h) q
theorem w_strN {H : Hp} {n : Nat} {Q : VK} (h : n < 10 ^ 40) (q : Q (.str (nz n)) H) : rStrI [.int n] H Q := w_strI (nat_log h) q
theorem len_empty : Str.empty.length = 0 := rfl
theorem one_dash : ("-" : Str).length = 1 := by decide +kernel
theorem one_blank : (" " : Str).length = 1 := by decide +kernel
/-- the text of a pair -/
abbrev pz (a b : Nat) : Str := nz a ++ "-" ++ nz b
/-- a web by its places and ties, as data -/
def dTie (t : Nat × Nat) : PyData := .tuple [.int t.1, .int t.2]
def dWeb (n : Nat) (ts : List (Nat × Nat)) : PyData := .tuple [.int n, .list (ts.map dTie)]
/-- its line -/
def pzs (ts : List (Nat × Nat)) : List Str := ts.map fun t => pz t.1 t.2
def lineOf (n : Nat) (ts : List (Nat × Nat)) : Str := Txt.join " " (nz n :: pzs ts)
def okTies (n : Nat) (ts : List (Nat × Nat)) : Prop := ∀ t ∈ ts, t.1 < t.2 ∧ t.2 < n
theorem pzs_sum {n : Nat} {ts : List (Nat × Nat)} (hn : n ≤ 7) (ok : okTies n ts) : ((pzs ts).map (·.length)).sum ≤ ts.length * 81 := by
  have := sum_leC 81 ((pzs ts).map (·.length)) (by
    intro x hx
    simp only [pzs, List.map_map, List.mem_map, Function.comp] at hx
    obtain ⟨t, ht, rfl⟩ := hx
    have ot := ok t ht
    exact pz_le (by omega) (by omega))
  rw [List.length_map, pzs, List.length_map] at this
  exact this
theorem split_line (n : Nat) (ts : List (Nat × Nat)) : Txt.split (lineOf n ts) " " = nz n :: pzs ts := by
  refine TL.split_join (s := 32) (S := []) (by decide +kernel) (by decide +kernel) (by simp) fun p hp => ?_
  rcases List.mem_cons.mp hp with rfl | hp
  · rw [nz_tl]; exact TL.numL_free (.inl (by decide))
  · obtain ⟨t, _, rfl⟩ := List.mem_map.mp hp
    rw [TL.tl_append, TL.tl_append, nz_tl, nz_tl]
    intro h
    rcases List.mem_append.mp h with h | h
    · rcases List.mem_append.mp h with h | h
      · exact TL.numL_free (.inl (by decide)) h
      · revert h; decide +kernel
    · exact TL.numL_free (.inl (by decide)) h
theorem line_len {n : Nat} {ts : List (Nat × Nat)} (hn : n ≤ 7) (hl : ts.length ≤ 40) (ok : okTies n ts) : (lineOf n ts).length ≤ 4000 := by
  have h1 := join_len " " (nz n :: pzs ts)
  have h2 := pzs_sum hn ok
  have h3 := nz_le (n := n) (by omega)
  have l2 : (pzs ts).length = ts.length := List.length_map _
  rw [one_blank, List.map_cons, List.sum_cons, List.length_cons, l2] at h1
  unfold lineOf
  omega
open TL in
theorem joinL_sep (s : List Nat) : ∀ (p : List Nat) (ps : List (List Nat)), joinL s (p :: ps) = p ++ joinL [] (ps.map fun x => s ++ x)
  | p, [] => by simp [joinL]
  | p, q :: r => by
    have ih := joinL_sep s q r
    cases r with
    | nil => simp [joinL]
    | cons c r => simp only [joinL, List.map_cons, List.nil_append] at ih ⊢; rw [ih]; simp
open TL in
theorem due_eq (n : Nat) (ts : List (Nat × Nat)) : nz n ++ Txt.join "" (ts.map fun t => " " ++ nz t.1 ++ "-" ++ nz t.2) = lineOf n ts := by
  apply ext_tl
  unfold lineOf pzs
  rw [tl_append, join_eq, join_eq, tl_join, tl_join, List.map_cons, joinL_sep, List.map_map, List.map_map, List.map_map]
  congr 2
  apply List.map_congr_left
  intro t _
  simp only [Function.comp, tl_append, List.append_assoc]
theorem due_len {n : Nat} {ts : List (Nat × Nat)} (hn : n ≤ 7) (hl : ts.length ≤ 40) (ok : okTies n ts) : (nz n).length + (Txt.join "" (ts.map fun t => " " ++ nz t.1 ++ "-" ++ nz t.2)).length ≤ 4000 := by
  rw [← len_app, due_eq]; exact line_len hn hl ok
theorem due_sum {n : Nat} {ts : List (Nat × Nat)} (hn : n ≤ 7) (ok : okTies n ts) : ((ts.map fun t => " " ++ nz t.1 ++ "-" ++ nz t.2).map (·.length)).sum ≤ ts.length * 82 := by
  have := sum_leC 82 ((ts.map fun t => " " ++ nz t.1 ++ "-" ++ nz t.2).map (·.length)) (by
    intro x hx
    simp only [List.map_map, List.mem_map, Function.comp] at hx
    obtain ⟨t, ht, rfl⟩ := hx
    have ot := ok t ht
    have := pz_le (a := t.1) (b := t.2) (by omega) (by omega)
    rw [pz_len] at this
    rw [len_app, len_app, len_app, one_dash, one_blank]
    omega)
  rw [List.length_map, List.length_map] at this
  exact this
theorem shp_tie (t : Nat × Nat) : Shp 1 (dTie t) := .tup fun d hd => by
  rcases List.mem_cons.mp hd with rfl | hd
  · exact .int _
  · rw [List.mem_singleton.mp hd]; exact .int _
theorem shp_ties (ts : List (Nat × Nat)) : Shp 2 (.list (ts.map dTie)) := .list fun d hd => by
  obtain ⟨t, _, rfl⟩ := List.mem_map.mp hd
  exact shp_tie t
theorem shp_web (n : Nat) (ts : List (Nat × Nat)) : Shp 3 (dWeb n ts) := .tup fun d hd => by
  rcases List.mem_cons.mp hd with rfl | hd
  · exact .int _
  · rw [List.mem_singleton.mp hd]; exact shp_ties ts
theorem ties_of {n : Nat} : ∀ {ds : List PyData}, (∀ d ∈ ds, ∃ t : Nat × Nat, d = dTie t ∧ t.1 < t.2 ∧ t.2 < n) → ∃ ts, ds = ts.map dTie ∧ okTies n ts
  | [], _ => ⟨[], rfl, fun _ h => nomatch h⟩
  | d :: r, h => by
    obtain ⟨t, rfl, h1⟩ := h d List.mem_cons_self
    obtain ⟨ts, rfl, h2⟩ := ties_of fun x hx => h x (List.mem_cons_of_mem _ hx)
    refine ⟨t :: ts, rfl, fun x hx => ?_⟩
    rcases List.mem_cons.mp hx with rfl | hx
    · exact h1
    · exact h2 x hx
end Hf

namespace Hf
open PySem PySem.Spec PyProof.Rows L2
/-! ## isinstance -/
section
variable {K : PySem.W.Frag} {H : Hp} {M : List Addr} {Q : VK} {x : V}
theorem tyx_list {ds : List PyData} (h : Dp K (vis M H) x (.list ds)) : TyX K H x (.type "list") := by
  obtain ⟨p, vs, rfl, h1, _⟩ := dp_list h
  rcases sqlv h1 with (e | ⟨o, e⟩) | ⟨o, _, _, e, c, _⟩
  · exact .base (.lst e)
  · exact .base (.frz e)
  · exact .kList e c
theorem tyx_tup {ds : List PyData} (h : Dp K (vis M H) x (.tuple ds)) : TyX K H x (.type "tuple") := by
  obtain ⟨p, vs, rfl, h1, _⟩ := dp_tup h
  rcases sqtv h1 with (e | ⟨o, e⟩) | ⟨o, _, _, e, c, _⟩
  · exact .base (.tup e)
  · exact .fTuple e
  · exact .kTuple e c
theorem w_isi {t c : String} (b : Bool) (h : TyX K H x (.type t)) (e : PySem.W.kitOne K (.type t) (.type c) = some b) (q : Q (.bl b) H) : rIsi K [x, .ty c] H Q := ⟨x, _, _, _, b, rfl, .ty c, h, e, q⟩
theorem w_isiII {i : Int} (q : Q (.bl true) H) : rIsi K [.int i, .ty "int"] H Q := w_isi true (.base (.int i)) (by rfl) q
theorem w_isiIB {i : Int} (q : Q (.bl false) H) : rIsi K [.int i, .ty "bool"] H Q := w_isi false (.base (.int i)) (by rfl) q
theorem w_isiSS {z : Str} (q : Q (.bl true) H) : rIsi K [.str z, .ty "str"] H Q := w_isi true (.base (.str z)) (by rfl) q
theorem w_isiTT {ds : List PyData} (h : Dp K (vis M H) x (.tuple ds)) (q : Q (.bl true) H) : rIsi K [x, .ty "tuple"] H Q := w_isi true (tyx_tup h) (by rfl) q
theorem w_isiLL {ds : List PyData} (h : Dp K (vis M H) x (.list ds)) (q : Q (.bl true) H) : rIsi K [x, .ty "list"] H Q := w_isi true (tyx_list h) (by rfl) q
end
/-! ## draws -/
theorem mod_two {x n : Int} (h0 : 0 ≤ x) (h1 : x < 2 * n) : x % n = if x < n then x else x - n := by
  by_cases c : x < n
  · rw [if_pos c, Int.emod_eq_of_lt h0 c]
  · rw [if_neg c]
    have e : x = x - n + n * 1 := by omega
    rw [e, Int.add_mul_emod_self_left, Int.emod_eq_of_lt (by omega) (by omega)]
    omega
/-- a pile: three ints -/
def PileAt (H : Hp) (pl : Addr) : Prop := ∃ a b c : Int, H pl = some (.lst [.int a, .int b, .int c])
theorem PileAt.ext {H H' : Hp} {pl : Addr} (e : Ext H H') (h : PileAt H pl) : PileAt H' pl := by
  obtain ⟨a, b, c, h⟩ := h
  exact ⟨a, b, c, e _ _ h⟩
theorem PileAt.some {H : Hp} {pl : Addr} (h : PileAt H pl) : H pl ≠ none := by
  obtain ⟨a, b, c, h⟩ := h
  exact some_ne h
theorem but_upd {a p : Addr} {H H' : Hp} {o : HO} (e : But a H H') (h : H p = none) : But a H (upd H' p o) := fun b u n hb => by
  rw [upd_ne (ne_of_none hb h)]; exact e b u n hb
theorem ext_but {p : Addr} {H H1 H2 : Hp} (e : Ext H H1) (h : H p = none) (b : But p H1 H2) : Ext H H2 := fun c o hc => b c o (ne_of_none hc h) (e c o hc)
section
variable {K : PySem.W.Frag} {σ : L2.St} {H H1 : Hp} {M : List Addr} {Q : VK} {g : TG} {tt : TT} {te : TE} {vsl : List Nat} {wi : TI}
theorem vis_hideB {a l : Addr} {H H' : Hp} (e : But a H H') (m : a ∈ M) (h : H l = none) : Ext (vis M H) (vis (l :: M) H') := fun b o q => by
  obtain ⟨n, q⟩ := vis_some q
  rw [vis_out (by
    intro z
    rcases List.mem_cons.mp z with z | z
    · subst z; rw [h] at q; cases q
    · exact n z)]
  exact e b o (fun z => n (z ▸ m)) q
/-- a comprehension over a range whose turns draw from a pile -/
theorem lx_R {lo : Int} {n : Nat} (a : Addr) (Ok : PyData → Prop) (hn : n < 100000) (hM : Dom M H1) (ha : a ∈ M) (hP : PileAt H1 a)
    (turn : ∀ (D : Addr) (i : Nat) (H2 : Hp), i < n → But a H1 H2 → Dom (D :: M) H2 → H1 D = none → PileAt H2 a → ∀ (Ky : V → Hp → Prop),
      (∀ y H' d, Ok d → But a H2 H' → PileAt H' a → Dp K (vis (D :: M) H') y d → Ky y H') → g (.int (lo + i)) (wipe σ vsl) H2 fun σ2 H4 => wipe σ2 vsl = wipe σ vsl ∧ te σ2 H4 Ky)
    (q : ∀ D H' ds, ds.length = n → (∀ d ∈ ds, Ok d) → But a H1 H' → Dom M H' → PileAt H' a → H1 D = none → Lst K M H' D ds → Q (.ref D) H') : lcW (Itr lo n) g tYes te vsl σ H1 Q := by
  intro D hD
  have hDM : D ∉ M := hM.new hD
  have hDa : a ≠ D := fun z => hDM (z ▸ ha)
  refine lc_it (walk_range (lo := lo) (n := n)) (fun i H => ∃ acc ds, H D = some (.lst acc) ∧ But a H1 H ∧ acc.length = i ∧ PileAt H a ∧ (∀ d ∈ ds, Ok d) ∧ DpAll K (vis (D :: M) H) acc ds) ⟨[], [], upd_same, (ext_new hD).but, rfl, hP.ext (ext_new hD), (fun _ z => nomatch z), .nil⟩ (fun i H _ _ => trivial) ?_ ?_
  · intro i x H2 H3 hi ⟨acc, ds, h1, h2, h3, h5, h6, h4⟩ hy
    obtain ⟨rfl, rfl⟩ := hy
    have dm : Dom (D :: M) H3 := (hM.but h2 h5.some).cons (some_ne h1)
    refine turn D i H3 hi h2 dm hD h5 _ (fun y H' d hf e hp hd => ⟨acc, e _ _ (Ne.symm hDa) h1, szl (by omega), acc ++ [y], ds ++ [d], upd_same, but_upd (h2.trans e) hD, by rw [List.length_append, h3]; rfl, ?_, ?_, ?_⟩)
    · obtain ⟨u, v, w, h⟩ := hp
      exact ⟨u, v, w, by rw [upd_ne hDa]; exact h⟩
    · intro d' hd'
      rcases List.mem_append.mp hd' with z | z
      · exact h6 d' z
      · rw [List.mem_singleton.mp z]; exact hf
    · rw [vis_upd List.mem_cons_self]
      exact dpAll_append (dpAllb e (List.mem_cons_of_mem _ ha) h4) (.cons hd .nil)
  · intro H ⟨acc, ds, h1, h2, h3, h5, h6, h4⟩
    exact q D H ds (by rw [← dpAll_len h4]; exact h3) h6 h2 (hM.but h2 h5.some) h5 hD ⟨hDM, acc, h1, dpAll_ext (vis_cons M H D) h4⟩
end
end Hf

namespace L70
open PySem PySem.Spec PyProof.Rows L2 Hf
local macro_rules | `(tactic| walk_at "dp") => `(tactic| first | assumption | exact .int _ | exact .str _ | exact .bl _ | exact .non | (apply dpx; (assumption); (walk_at "dp")) | (apply dpb; (assumption); (first | assumption | simp); (walk_at "dp")))
local macro_rules | `(tactic| walk_at "dps") => `(tactic| first | exact .nil | (apply DpAll.cons; (walk_at "dp"); (walk_at "dps")))
local macro_rules | `(tactic| walk_at "s0") => `(tactic| first
  | ((with_reducible apply w_var); exact rfl)
  | with_reducible refine w_op ?_
  | with_reducible refine iteT ?_
  | with_reducible refine iteF ?_
  | with_reducible refine ite_nT ?_
  | with_reducible refine ite_nF ?_
  | with_reducible refine w_c ?_
  | with_reducible refine w_js ?_
  | with_reducible refine w_js0 ?_
  | with_reducible refine w_fmt ?_
  | with_reducible refine w_tyes ?_
  | with_reducible refine w_cons ?_
  | with_reducible refine w_nil ?_
  | with_reducible refine w_I0 ?_
  | with_reducible refine w_U ?_
  | with_reducible refine w_un ?_
  | with_reducible refine w_cb ?_
  | with_reducible refine w_test ?_
  | with_reducible refine w_B ?_
  | with_reducible refine w_blV ?_
  | with_reducible refine w_eqI ?_
  | with_reducible refine w_neI ?_
  | with_reducible refine w_eqS ?_
  | with_reducible refine w_neS ?_
  | with_reducible refine w_int1 ?_
  | with_reducible refine w_and ?_
  | with_reducible refine w_or ?_
  | with_reducible refine w_not ?_
  | with_reducible refine w_andV ?_
  | with_reducible refine w_orV ?_
  | with_reducible refine w_notV ?_
  | with_reducible refine w_if ?_
  | with_reducible refine w_tup ?_
  | with_reducible refine w_lst ?_
  | with_reducible refine w_fn ?_
  | with_reducible refine w_chain ?_
  | with_reducible refine w_chain3 ?_
  | with_reducible refine w_sl ?_
  | with_reducible refine w_part ?_
  | with_reducible refine w_noPart ?_
  | with_reducible refine w_bm ?_
  | with_reducible refine w_bm0 ?_
  | with_reducible refine w_lc ?_
  | with_reducible refine w_m1 ?_
  | with_reducible refine w_isS ?_
  | with_reducible refine w_abs ?_
  | with_reducible refine w_max ?_
  | with_reducible refine w_min ?_
  | with_reducible refine w_intI ?_
  | with_reducible refine w_intB ?_
  | with_reducible refine w_isiII ?_
  | with_reducible refine w_isiIB ?_
  | with_reducible refine w_isiSS ?_
  | with_reducible refine w_inSg ?_
  | with_reducible refine w_niSg ?_
  | with_reducible refine w_isNn ?_
  | with_reducible refine w_noNn ?_
  | with_reducible refine i_list ?_
  | with_reducible refine i_tup ?_
  | with_reducible refine i_str ?_
  | with_reducible refine i_strD ?_
  | with_reducible refine i_rng1 ?_
  | with_reducible refine i_rng2 ?_
  | with_reducible refine i_enum ?_
  | with_reducible refine i_zip ?_
  | with_reducible refine s_asg ?_
  | with_reducible refine s_asg1 ?_
  | with_reducible refine s_asgG ?_
  | with_reducible refine s_asgG1 ?_
  | with_reducible refine s_par ?_
  | with_reducible refine s_par2 ?_
  | with_reducible refine s_drop ?_
  | with_reducible refine s_drop1 ?_
  | with_reducible refine s_ret ?_
  | with_reducible refine s_retN ?_
  | with_reducible refine s_retS ?_
  | with_reducible refine s_next ?_
  | with_reducible refine s_nextS ?_
  | with_reducible refine s_if ?_
  | with_reducible refine s_if1 ?_
  | with_reducible refine s_for ?_
  | with_reducible refine s_for1 ?_
  | with_reducible refine s_brk ?_
  | with_reducible refine s_cnt ?_
  | with_reducible refine g_name ?_
  | with_reducible refine g_set ?_
  | ((with_reducible apply w_ixR); assumption; exact rfl)
  | ((with_reducible apply w_ixInt); assumption; exact rfl)
  | ((with_reducible apply w_ixTInt); assumption; exact rfl)
  | (refine w_I (c_mul ?h1) ?h2; (case h1 => omega))
  | (refine w_I (c_div ?h1) ?h2; (case h1 => omega))
  | (refine w_I (c_divW ?h1) ?h2; (case h1 => first | omega | exact ⟨by assumption, by assumption⟩))
  | (refine w_I ?h1 ?h2; (case h1 => (show (0 : Int) < _; first | omega | decide +kernel)))
  | (refine w_I (c_mulW ?h1) ?h2; (case h1 => decide +kernel))
  | (refine w_I (c_pow ?h1) ?h2; (case h1 => decide)))
local macro_rules | `(tactic| walk_at "st") => `(tactic| first
  | (walk_at "s0")
  | ((with_reducible refine w_newT (by assumption) (by assumption) (by walk_at "dps") (by first | exact Nat.le_of_ble_eq_true rfl | omega) ?_); intro p H' e hM hd)
  | ((with_reducible refine w_newL (by assumption) (by assumption) (by walk_at "dps") (by first | exact Nat.le_of_ble_eq_true rfl | omega) ?_); intro p H' e hM hd))
local macro_rules | `(tactic| walk_at "go0") => `(tactic| repeat (walk_at "s0"))
local macro_rules | `(tactic| walk_at "raw") => `(tactic| first | assumption | (refine (by assumption : Ext _ _) _ _ ?_; walk_at "raw"))
local macro_rules | `(tactic| walk_at "go") => `(tactic| repeat (walk_at "st"))
def topS (i : Nat) : Stmt := PySem.Challenge.pw_holdfast_k70_webs_as_texts.main.body.getD i (.Pass ⟨0, 0, 0, 0⟩)
abbrev s__law_pile : Stmt := topS 17
theorem sc__law_pile : FnScope ["_law_script", "_law_k", "_law_cell"] ["_law_script", "_law_k"] (defScope s__law_pile) := ⟨rfl, rfl, rfl, by decide +kernel, rfl, by decide +kernel, by decide +kernel⟩
abbrev s__law_mixed : Stmt := topS 16
theorem sc__law_mixed : FnScope ["_law_cell", "_law_k", "_law_number"] ["_law_cell", "_law_k"] (defScope s__law_mixed) := ⟨rfl, rfl, rfl, by decide +kernel, rfl, by decide +kernel, by decide +kernel⟩
abbrev s__law_take : Stmt := topS 18
theorem sc__law_take : FnScope ["_law_pile_here", "_law_many", "_law_digit"] ["_law_pile_here", "_law_many"] (defScope s__law_take) := ⟨rfl, rfl, rfl, by decide +kernel, rfl, by decide +kernel, by decide +kernel⟩
abbrev s__law_tie : Stmt := topS 19
theorem sc__law_tie : FnScope ["_law_pile_here", "_law_n", "_law_way", "_law_turn", "_law_b", "_law_a", "_law_base", "_law_size", "_law_first"] ["_law_pile_here", "_law_n", "_law_way", "_law_turn"] (defScope s__law_tie) := ⟨rfl, rfl, rfl, by decide +kernel, rfl, by decide +kernel, by decide +kernel⟩
abbrev s__law_web : Stmt := topS 20
theorem sc__law_web : FnScope ["_law_pile_here", "_law_least", "_law_many", "_law_n", "_law_way", "_law_turn", "_law_much", "_law_k"] ["_law_pile_here", "_law_least", "_law_many"] (defScope s__law_web) := ⟨rfl, rfl, rfl, by decide +kernel, rfl, by decide +kernel, by decide +kernel⟩
abbrev s_number_in : Stmt := topS 9
theorem sc_number_in : FnScope ["word", "sign"] ["word"] (defScope s_number_in) := ⟨rfl, rfl, rfl, by decide +kernel, rfl, by decide +kernel, by decide +kernel⟩
abbrev s_pair_in : Stmt := topS 10
theorem sc_pair_in : FnScope ["word", "parts"] ["word"] (defScope s_pair_in) := ⟨rfl, rfl, rfl, by decide +kernel, rfl, by decide +kernel, by decide +kernel⟩
abbrev s_show_pair : Stmt := topS 12
theorem sc_show_pair : FnScope ["pair"] ["pair"] (defScope s_show_pair) := ⟨rfl, rfl, rfl, by decide +kernel, rfl, by decide +kernel, by decide +kernel⟩
abbrev s_show_web : Stmt := topS 13
theorem sc_show_web : FnScope ["web", "tie"] ["web"] (defScope s_show_web) := ⟨rfl, rfl, rfl, by decide +kernel, rfl, by decide +kernel, by decide +kernel⟩
abbrev s_is_tie : Stmt := topS 5
theorem sc_is_tie : FnScope ["n", "tie"] ["n", "tie"] (defScope s_is_tie) := ⟨rfl, rfl, rfl, by decide +kernel, rfl, by decide +kernel, by decide +kernel⟩
abbrev s_look_at_web : Stmt := topS 6
theorem sc_look_at_web : FnScope ["web", "n", "ties", "number", "tie"] ["web"] (defScope s_look_at_web) := ⟨rfl, rfl, rfl, by decide +kernel, rfl, by decide +kernel, by decide +kernel⟩
abbrev s_tie_in : Stmt := topS 11
theorem sc_tie_in : FnScope ["word", "a", "b"] ["word"] (defScope s_tie_in) := ⟨rfl, rfl, rfl, by decide +kernel, rfl, by decide +kernel, by decide +kernel⟩
abbrev s_read_web : Stmt := topS 14
theorem sc_read_web : FnScope ["text", "words", "web", "word"] ["text"] (defScope s_read_web) := ⟨rfl, rfl, rfl, by decide +kernel, rfl, by decide +kernel, by decide +kernel⟩
abbrev s__law_whole : Stmt := topS 21
theorem sc__law_whole : FnScope ["_law_number"] ["_law_number"] (defScope s__law_whole) := ⟨rfl, rfl, rfl, by decide +kernel, rfl, by decide +kernel, by decide +kernel⟩
abbrev s__law_same : Stmt := topS 22
theorem sc__law_same : FnScope ["_law_told", "_law_n", "_law_ties", "_law_numbers", "_law_tie_here", "_law_number"] ["_law_told", "_law_n", "_law_ties"] (defScope s__law_same) := ⟨rfl, rfl, rfl, by decide +kernel, rfl, by decide +kernel, by decide +kernel⟩
abbrev s_law : Stmt := topS 23
theorem sc_law : FnScope ["_law_script", "_law_at", "_law_n", "_law_ties", "_law_due", "_law_handed", "_law_turn", "_law_text", "_law_told", "_law_other", "_law_a", "_law_b"] ["_law_script"] (defScope s_law) := ⟨rfl, rfl, rfl, by decide +kernel, rfl, by decide +kernel, by decide +kernel⟩
structure Txt (K : PySem.W.Frag) (mg : Str → Option Value) : Prop where
  c_FIGURES : ∃ t, mg "FIGURES" = some (.str "0123456789" t)
  m_abs : mg "abs" = none
  m_any : mg "any" = none
  m_bool : mg "bool" = none
  m_enumerate : mg "enumerate" = none
  m_int : mg "int" = none
  m_isinstance : mg "isinstance" = none
  m_len : mg "len" = none
  m_list : mg "list" = none
  m_max : mg "max" = none
  m_min : mg "min" = none
  m_range : mg "range" = none
  m_str : mg "str" = none
  m_tuple : mg "tuple" = none
  f__law_pile : At K mg "_law_pile" s__law_pile
  f__law_mixed : At K mg "_law_mixed" s__law_mixed
  f__law_take : At K mg "_law_take" s__law_take
  f__law_tie : At K mg "_law_tie" s__law_tie
  f__law_web : At K mg "_law_web" s__law_web
  f_number_in : At K mg "number_in" s_number_in
  f_pair_in : At K mg "pair_in" s_pair_in
  f_show_pair : At K mg "show_pair" s_show_pair
  f_show_web : At K mg "show_web" s_show_web
  f_is_tie : At K mg "is_tie" s_is_tie
  f_look_at_web : At K mg "look_at_web" s_look_at_web
  f_tie_in : At K mg "tie_in" s_tie_in
  f_read_web : At K mg "read_web" s_read_web
  f__law_whole : At K mg "_law_whole" s__law_whole
  f__law_same : At K mg "_law_same" s__law_same
  f_law : At K mg "law" s_law
def sp__law_pile (K : PySem.W.Frag) : Sp := fun vs H Q _ => ∃ (a : Addr) (ns : List Int) (k : Int), vs = [.ref a, .int k] ∧ SqL K H a (ns.map V.int) ∧ 0 ≤ k ∧ ∀ H' p, H p = none → Ext H H' → PileAt H' p → Q (.ref p) H'
theorem ok__law_pile {P : Program} {w : World} {K : PySem.W.Frag} {mg : Str → Option Value} {base : Heap} (T : Txt K mg) : OkF P w K mg base CX0 1 "_law_pile" ["_law_script", "_law_k"] (sp__law_pile K) := by
  refine okF0 T.f__law_pile sc__law_pile (fun vs H Q E h => ?_) (fun _ _ _ _ _ _ us hl => match us, hl with | [_, _], _ => rfl) (fun cdv A outer s H vs Q E hr h => ?_)
  · obtain ⟨a, ns, k, rfl, hS, hk, q⟩ := h
    rfl
  · have hu := hu_of hr
    have kt : KTok K := rfl
    refine ⟨_, (pss_cons (ps_set (i := 2) sc__law_pile.nd rfl (Or.inl rfl) pe_int)
      (pss_cutH (ps_if (pt_cmpR op_lt (pv 1) (pe_callB cn_len (by rfl) T.m_len (by decide +kernel) (pa_cons (pv 0) pa_nil)) (nomark _)) (pss_one (ps_set (i := 2) sc__law_pile.nd rfl (Or.inl rfl) (pe_ix ix_list (pv 0) (pv 1) (fun _ _ => rfl)))) pss_nil)
      (pss_one (ps_ret (pe_lst (pa_cons (pe_ix ix_list (pe_lst (pa_cons pe_int (pa_cons (pe_op op_mod (pv 2) (pe_op op_mulW (pe_op op_mulW (pe_op op_pow pe_int pe_int) (pe_op op_pow pe_int pe_int)) (pe_op op_pow pe_int pe_int))) pa_nil))) (pe_callTy cn_int (by rfl) T.m_int (by decide +kernel) (pa_cons (pe_cmpR op_ge (pe_callB cn_abs (by rfl) T.m_abs (by decide +kernel) (pa_cons (pv 2) pa_nil)) (pe_op op_pow pe_int pe_int) (nomark _)) pa_nil)) (fun _ _ => rfl)) (pa_cons (pe_op op_mod (pv 2) pe_int) (pa_cons (pe_op op_mul pe_int (pv 1)) pa_nil)))))))), ?_⟩
    obtain ⟨a, ns, k, rfl, hS, hk, q⟩ := h
    try dsimp only [cxOf, Cx.nox, Cx.wish]
    refine start_as (σ := [some _, some _, none]) rfl ?_
    have hM : Dom [] H := Dom.nil
    walk_at "go"
    refine s_cut (fun σ' H' => ∃ c, σ' = [some (.ref a), some (.int k), some (.int c)] ∧ H' = H) ?_ ?_
    · walk_at "go"
      refine w_lenR hS ?_
      walk_at "go"
      refine w_ite (fun c => ?_) (fun c => ?_)
      · rw [List.length_map] at c
        obtain ⟨j, rfl⟩ : ∃ j : Nat, k = (j : Int) := ⟨k.toNat, by omega⟩
        have hj : j < ns.length := by omega
        walk_at "go"
        refine ⟨a, _, _, .int ns[j], rfl, rfl, hS, atI_nat (by rw [List.getElem?_map, List.getElem?_eq_getElem hj]; rfl), ?_⟩
        exact ⟨_, rfl, rfl⟩
      · walk_at "go"
        exact ⟨_, rfl, rfl⟩
    · rintro σ' H' ⟨c, rfl, rfl⟩
      walk_at "go"
      refine w_ixI [0, _] (by assumption) (by split <;> omega) (by show _ < (2 : Int); split <;> omega) fun n _ => ?_
      walk_at "go0"
      rename_i p₁ H₁ e₁ _ _ _
      refine w_newR (by exact Nat.le_of_ble_eq_true rfl) fun p H₂ hp e h => ?_
      exact q H₂ p (fresh_back e₁ hp) (e₁.trans e) ⟨_, _, _, h⟩
def sp__law_mixed (K : PySem.W.Frag) : Sp := fun vs H Q _ => ∃ b c : Int, vs = [.int b, .int c] ∧ ∀ r : Int, 0 ≤ r → Q (.int r) H
theorem ok__law_mixed {P : Program} {w : World} {K : PySem.W.Frag} {mg : Str → Option Value} {base : Heap} (T : Txt K mg) : OkF P w K mg base CX0 1 "_law_mixed" ["_law_cell", "_law_k"] (sp__law_mixed K) := by
  refine okF0 T.f__law_mixed sc__law_mixed (fun vs H Q E h => ?_) (fun _ _ _ _ _ _ us hl => match us, hl with | [_, _], _ => rfl) (fun cdv A outer s H vs Q E hr h => ?_)
  · obtain ⟨b, c, rfl, q⟩ := h
    rfl
  · have hu := hu_of hr
    have kt : KTok K := rfl
    refine ⟨_, (pss_cons (ps_set (i := 2) sc__law_mixed.nd rfl (Or.inl rfl) (pe_op op_mod (pe_op op_add (pe_op op_add (pe_op op_mul (pe_op op_mod (pv 0) pe_int) pe_int) (pe_op op_mul (pv 1) pe_int)) pe_int) pe_int))
      (pss_cons (ps_set (i := 2) sc__law_mixed.nd rfl (Or.inl rfl) (pe_op op_mod (pe_op op_mul (pv 2) (pv 2)) pe_int))
      (pss_one (ps_ret (pe_op op_fdiv (pe_op op_mod (pe_op op_mul (pv 2) (pv 2)) pe_int) pe_int))))), ?_⟩
    obtain ⟨b, c, rfl, q⟩ := h
    try dsimp only [cxOf, Cx.nox, Cx.wish]
    refine start_as (σ := [some _, some _, none]) rfl ?_
    walk_at "go"
    exact q _ (by omega)
def sp__law_take (K : PySem.W.Frag) : Sp := fun vs H Q _ => ∃ (pl : Addr) (m : Int), vs = [.ref pl, .int m] ∧ 0 < m ∧ m < 2 ^ 200 ∧ PileAt H pl ∧ ∀ H' r, But pl H H' → PileAt H' pl → 0 ≤ r → r < m → Q (.int r) H'
theorem ok__law_take {P : Program} {w : World} {K : PySem.W.Frag} {mg : Str → Option Value} {base : Heap} (T : Txt K mg) (O__law_mixed : OkF P w K mg base CX0 1 "_law_mixed" ["_law_cell", "_law_k"] (sp__law_mixed K)) : OkF P w K mg base CX0 2 "_law_take" ["_law_pile_here", "_law_many"] (sp__law_take K) := by
  refine okF0 T.f__law_take sc__law_take (fun vs H Q E h => ?_) (fun _ _ _ _ _ _ us hl => match us, hl with | [_, _], _ => rfl) (fun cdv A outer s H vs Q E hr h => ?_)
  · obtain ⟨pl, m, rfl, hm, hm2, ⟨a, b, c, hp⟩, q⟩ := h
    rfl
  · have hu := hu_of hr
    have kt : KTok K := rfl
    refine ⟨_, (pss_cons (ps_if (pt_cmpR op_in_seq (pe_ix ix_list (pv 0) pe_int (fun _ _ => rfl)) (pe_lst (pa_cons pe_int (pa_cons (pe_un un_neg pe_int) pa_nil))) (by rfl)) (pss_cons (ps_asg (pe_op op_add (pe_ix ix_list (pv 0) pe_int (fun _ _ => rfl)) pe_int) (pg_sub (pv 0) pe_int set_list))
      (pss_one (ps_ret (pe_op op_mod (pe_callF O__law_mixed (hr.mono (by decide)) (by rfl) pass0 (pa_cons (pe_ix ix_list (pv 0) pe_int (fun _ _ => rfl)) (pa_cons (pe_ix ix_list (pv 0) pe_int (fun _ _ => rfl)) pa_nil))) (pv 1))))) pss_nil)
      (pss_cons (ps_set (i := 2) sc__law_take.nd rfl (Or.inl rfl) (pe_op op_mod (pe_ix ix_list (pv 0) pe_int (fun _ _ => rfl)) (pv 1)))
      (pss_cons (ps_asg (pe_op op_fdivW (pe_ix ix_list (pv 0) pe_int (fun _ _ => rfl)) (pv 1)) (pg_sub (pv 0) pe_int set_list))
      (pss_one (ps_ret (pv 2)))))), ?_⟩
    obtain ⟨pl, m, rfl, hm, hm2, ⟨a, b, c, hp⟩, q⟩ := h
    try dsimp only [cxOf, Cx.nox, Cx.wish]
    refine start_as (σ := [some _, some _, none]) rfl ?_
    have hM : Dom [pl] H := Dom.nil.cons (some_ne hp)
    walk_at "go"
    refine w_inI [0, -1] (.inl (by assumption)) ?_
    rename_i p₁ H₁ e₁ hM₁ hd₁
    have hp1 := e₁ _ _ hp
    walk_at "go"
    refine w_ite (fun c => ?_) (fun c => ?_)
    · walk_at "go"
      refine w_setB hp1 rfl fun H2 e2 hp2 => ?_
      walk_at "go"
      refine ⟨_, _, rfl, fun r hr => ?_⟩
      walk_at "go"
      exact q _ _ (e₁.but.trans e2) ⟨_, _, _, hp2⟩ (Int.emod_nonneg _ (by omega)) (Int.emod_lt_of_pos _ hm)
    · walk_at "go"
      refine w_setB hp1 rfl fun H2 e2 hp2 => ?_
      walk_at "go"
      exact q _ _ (e₁.but.trans e2) ⟨_, _, _, hp2⟩ (Int.emod_nonneg _ (by omega)) (Int.emod_lt_of_pos _ hm)
def sp__law_tie (K : PySem.W.Frag) : Sp := fun vs H Q _ => ∃ (pl : Addr) (n way turn : Int) (M : List Addr), vs = [.ref pl, .int n, .int way, .int turn] ∧ 2 ≤ n ∧ n < 100 ∧ 0 ≤ turn ∧ turn < n ∧ PileAt H pl ∧ pl ∈ M ∧ Dom M H ∧
  ∀ H' p (a b : Nat), But pl H H' → PileAt H' pl → Dom M H' → a < b → (b : Int) < n → Dp K (vis M H') (.ref p) (.tuple [.int a, .int b]) → Q (.ref p) H'
theorem ok__law_tie {P : Program} {w : World} {K : PySem.W.Frag} {mg : Str → Option Value} {base : Heap} (T : Txt K mg) (O__law_take : OkF P w K mg base CX0 2 "_law_take" ["_law_pile_here", "_law_many"] (sp__law_take K)) : OkF P w K mg base CX0 3 "_law_tie" ["_law_pile_here", "_law_n", "_law_way", "_law_turn"] (sp__law_tie K) := by
  refine okF0 T.f__law_tie sc__law_tie (fun vs H Q E h => ?_) (fun _ _ _ _ _ _ us hl => match us, hl with | [_, _, _, _], _ => rfl) (fun cdv A outer s H vs Q E hr h => ?_)
  · obtain ⟨pl, n, way, turn, M, rfl, hn, hn2, ht, ht2, hP, hm, hM, q⟩ := h
    rfl
  · have hu := hu_of hr
    have kt : KTok K := rfl
    refine ⟨_, (pss_cons (ps_set (i := 4) sc__law_tie.nd rfl (Or.inl rfl) (pe_op op_add pe_int (pe_callF O__law_take (hr.mono (by decide)) (by rfl) pass0 (pa_cons (pv 0) (pa_cons (pe_op op_sub (pv 1) pe_int) pa_nil)))))
      (pss_cons (ps_set (i := 5) sc__law_tie.nd rfl (Or.inl rfl) (pe_callF O__law_take (hr.mono (by decide)) (by rfl) pass0 (pa_cons (pv 0) (pa_cons (pv 4) pa_nil))))
      (pss_cutH (ps_if (PW.pt (pw_and (pt_cmpR op_eq (pv 2) pe_int (nomark _)) (pw_and (pt_cmpR op_gt (pv 1) pe_int (nomark _)) (pw_and1 (pt_cmpR op_gt (pe_callF O__law_take (hr.mono (by decide)) (by rfl) pass0 (pa_cons (pv 0) (pa_cons pe_int pa_nil))) pe_int (nomark _)))))) (pss_cons (ps_asg (pe_ix ix_list (pe_lst (pa_cons (pe_tup (pa_cons pe_int (pa_cons (pe_op op_fdiv (pv 1) pe_int) pa_nil))) (pa_cons (pe_tup (pa_cons (pe_op op_fdiv (pv 1) pe_int) (pa_cons (pe_op op_sub (pv 1) (pe_op op_fdiv (pv 1) pe_int)) pa_nil))) pa_nil))) (pe_callF O__law_take (hr.mono (by decide)) (by rfl) pass0 (pa_cons (pv 0) (pa_cons pe_int pa_nil))) (fun _ _ => rfl)) (pg_tup rfl (pgs_cons (pg_name (i := 6) sc__law_tie.nd rfl (Or.inl rfl)) (pgs_cons (pg_name (i := 7) sc__law_tie.nd rfl (Or.inl rfl)) pgs_nil))))
      (pss_cons (ps_set (i := 8) sc__law_tie.nd rfl (Or.inl rfl) (pe_callF O__law_take (hr.mono (by decide)) (by rfl) pass0 (pa_cons (pv 0) (pa_cons (pv 7) pa_nil))))
      (pss_cons (ps_set (i := 5) sc__law_tie.nd rfl (Or.inl rfl) (pe_op op_add (pv 6) (pv 8)))
      (pss_one (ps_set (i := 4) sc__law_tie.nd rfl (Or.inl rfl) (pe_op op_add (pv 6) (pe_op op_mod (pe_op op_add (pe_op op_add (pv 8) pe_int) (pe_callF O__law_take (hr.mono (by decide)) (by rfl) pass0 (pa_cons (pv 0) (pa_cons (pe_op op_sub (pv 7) pe_int) pa_nil)))) (pv 7)))))))) pss_nil)
      (pss_cutH (ps_if (pt_cmpR op_eq (pv 2) pe_int (nomark _)) (pss_one (ps_set (i := 5) sc__law_tie.nd rfl (Or.inl rfl) (pe_op op_sub (pv 4) pe_int))) pss_nil)
      (pss_cutH (ps_if (pt_cmpR op_eq (pv 2) pe_int (nomark _)) (pss_one (ps_asg (pe_ix ix_list (pe_lst (pa_cons (pe_tup (pa_cons pe_int (pa_cons pe_int pa_nil))) (pa_cons (pe_tup (pa_cons pe_int (pa_cons (pe_op op_sub (pv 1) pe_int) pa_nil))) (pa_cons (pe_tup (pa_cons (pe_callB (cn_min rfl) (by rfl) T.m_min (by decide +kernel) (pa_cons pe_int (pa_cons (pe_op op_sub (pv 1) pe_int) pa_nil))) (pa_cons (pe_op op_sub (pv 1) pe_int) pa_nil))) pa_nil)))) (pe_callF O__law_take (hr.mono (by decide)) (by rfl) pass0 (pa_cons (pv 0) (pa_cons pe_int pa_nil))) (fun _ _ => rfl)) (pg_tup rfl (pgs_cons (pg_name (i := 5) sc__law_tie.nd rfl (Or.inl rfl)) (pgs_cons (pg_name (i := 4) sc__law_tie.nd rfl (Or.inl rfl)) pgs_nil))))) pss_nil)
      (pss_cons (ps_par (i := 5) (j := 4) (by rfl) sc__law_tie.nd rfl rfl (by decide) rfl rfl (pa_cons (pe_op op_mod (pe_op op_add (pv 5) (pv 3)) (pv 1)) (pa_cons (pe_op op_mod (pe_op op_add (pv 4) (pv 3)) (pv 1)) pa_nil)) (by rfl))
      (pss_one (ps_ret (pe_tup (pa_cons (pe_callB (cn_min rfl) (by rfl) T.m_min (by decide +kernel) (pa_cons (pv 5) (pa_cons (pv 4) pa_nil))) (pa_cons (pe_callB (cn_max rfl) (by rfl) T.m_max (by decide +kernel) (pa_cons (pv 5) (pa_cons (pv 4) pa_nil))) pa_nil))))))))))), ?_⟩
    obtain ⟨pl, n, way, turn, M, rfl, hn, hn2, ht, ht2, hP, hm, hM, q⟩ := h
    try dsimp only [cxOf, Cx.nox, Cx.wish]
    refine start_as (σ := [some _, some _, some _, some _, none, none, none, none, none]) rfl ?_
    walk_at "go"
    refine ⟨pl, n - 1, rfl, by omega, by omega, hP, fun H1 b e1 hP1 b0 b1 => ?_⟩
    walk_at "go"
    refine ⟨pl, 1 + b, rfl, by omega, by omega, hP1, fun H2 a e2 hP2 a0 a1 => ?_⟩
    walk_at "go"
    have e02 := e1.trans e2
    have hM2 := hM.but e02 hP2.some
    refine s_cut (fun σ' H' => ∃ (x y : Int) (u v w : Option V), σ' = [some (.ref pl), some (.int n), some (.int way), some (.int turn), some (.int y), some (.int x), u, v, w] ∧ 0 ≤ x ∧ x < n ∧ 0 ≤ y ∧ y < n ∧ x ≠ y ∧ (way = 1 ∨ 1 ≤ y) ∧ But pl H H' ∧ PileAt H' pl) ?_ ?_
    · walk_at "go"
      refine w_ite (fun c1 => ?_) fun _ => ?_
      · walk_at "go"
        refine w_ite (fun c2 => ?_) fun _ => ?_
        · walk_at "go"
          refine ⟨pl, 6, rfl, by omega, by omega, hP2, fun H3 r e3 hP3 _ _ => ?_⟩
          walk_at "go"
          refine w_ite (fun c3 => ?_) fun _ => ?_
          · have hM3 := hM2.but e3 hP3.some
            walk_at "go"
            rename_i p4 H4 e4 hM4 h4 p5 H5 e5 hM5 h5 p6 H6 e6 hM6 h6
            have e46 := e4.trans (e5.trans e6)
            have hP6 := hP3.ext e46
            refine ⟨pl, 2, rfl, by omega, by omega, hP6, fun H7 r7 e7 hP7 r70 r72 => ?_⟩
            have hM7 := hM6.but e7 hP7.some
            refine w_ixLa (dpb e7 hm h6) r70 r72 fun v d hd hv => ?_
            obtain ⟨s, z, rfl, s0, z2, sz⟩ : ∃ s z : Int, d = .tuple [.int s, .int z] ∧ 0 ≤ s ∧ 2 ≤ z ∧ s + z ≤ n := by
              rcases List.mem_cons.mp hd with rfl | hd
              · exact ⟨_, _, rfl, by omega, by omega, by omega⟩
              · rw [List.mem_singleton.mp hd]
                exact ⟨_, _, rfl, by omega, by omega, by omega⟩
            walk_at "go"
            refine g_tup2 hv fun v1 v2 d1 d2 => ?_
            cases dp_int d1
            cases dp_int d2
            walk_at "go"
            refine ⟨pl, z, rfl, by omega, by omega, hP7, fun H8 f e8 hP8 f0 f1 => ?_⟩
            walk_at "go"
            refine ⟨pl, z - 1, rfl, by omega, by omega, hP8, fun H9 g e9 hP9 g0 g1 => ?_⟩
            walk_at "go"
            have m0 := mod_two (x := f + 1 + g) (n := z) (by omega) (by omega)
            split at m0
            all_goals
              refine ⟨s + f, s + (f + 1 + g) % z, _, _, _, rfl, ?_, ?_, ?_, ?_, ?_, ?_, e02.trans (e3.trans (e46.but.trans (e7.trans (e8.trans e9)))), hP9⟩
              all_goals omega
          · walk_at "go"
            exact ⟨_, _, _, _, _, rfl, by omega, by omega, by omega, by omega, by omega, by omega, e02.trans e3, hP3⟩
        · walk_at "go"
          exact ⟨_, _, _, _, _, rfl, by omega, by omega, by omega, by omega, by omega, by omega, e02, hP2⟩
      · walk_at "go"
        exact ⟨_, _, _, _, _, rfl, by omega, by omega, by omega, by omega, by omega, by omega, e02, hP2⟩
    · rintro σ' H' ⟨x, y, u, v, w, rfl, x0, x1, y0, y1, xy, w1, e3, hP3⟩
      refine s_cut (fun σ' H' => ∃ (x y : Int) (u v w : Option V), σ' = [some (.ref pl), some (.int n), some (.int way), some (.int turn), some (.int y), some (.int x), u, v, w] ∧ 0 ≤ x ∧ x < n ∧ 0 ≤ y ∧ y < n ∧ x ≠ y ∧ But pl H H' ∧ PileAt H' pl) ?_ ?_
      · walk_at "go"
        refine w_ite (fun c1 => ?_) fun _ => ?_
        · walk_at "go"
          exact ⟨_, _, _, _, _, rfl, by omega, by omega, by omega, by omega, by omega, e3, hP3⟩
        · walk_at "go"
          exact ⟨_, _, _, _, _, rfl, by omega, by omega, by omega, by omega, by omega, e3, hP3⟩
      · clear x0 x1 y0 y1 xy w1 e3 hP3
        rintro σ' H' ⟨x, y, u, v, w, rfl, x0, x1, y0, y1, xy, e3, hP3⟩
        refine s_cut (fun σ' H' => ∃ (x y : Int) (u v w : Option V), σ' = [some (.ref pl), some (.int n), some (.int way), some (.int turn), some (.int y), some (.int x), u, v, w] ∧ 0 ≤ x ∧ x < n ∧ 0 ≤ y ∧ y < n ∧ x ≠ y ∧ But pl H H' ∧ PileAt H' pl) ?_ ?_
        · walk_at "go"
          refine w_ite (fun c1 => ?_) fun _ => ?_
          · walk_at "go"
            have hM3 := hM.but e3 hP3.some
            walk_at "go"
            rename_i p4 H4 e4 hM4 h4 p5 H5 e5 hM5 h5 p6 H6 e6 hM6 h6 p7 H7 e7 hM7 h7
            have e47 := e4.trans (e5.trans (e6.trans e7))
            have hP7 := hP3.ext e47
            refine ⟨pl, 3, rfl, by omega, by omega, hP7, fun H8 r8 e8 hP8 r80 r82 => ?_⟩
            refine w_ixLa (dpb e8 hm h7) r80 r82 fun v d hd hv => ?_
            obtain ⟨s, z, rfl, s0, z2, sz, sz2⟩ : ∃ s z : Int, d = .tuple [.int s, .int z] ∧ 0 ≤ s ∧ s < n ∧ 0 ≤ z ∧ z < n ∧ s ≠ z := by
              rcases List.mem_cons.mp hd with rfl | hd
              · exact ⟨_, _, rfl, by omega, by omega, by omega, by omega, by omega⟩
              · rcases List.mem_cons.mp hd with rfl | hd
                · exact ⟨_, _, rfl, by omega, by omega, by omega, by omega, by omega⟩
                · rw [List.mem_singleton.mp hd]
                  exact ⟨_, _, rfl, by split <;> omega, by split <;> omega, by omega, by omega, by split <;> omega⟩
            refine g_tup2 hv fun v1 v2 d1 d2 => ?_
            cases dp_int d1
            cases dp_int d2
            exact ⟨s, z, _, _, _, rfl, by omega, by omega, by omega, by omega, by omega, e3.trans (e47.but.trans e8), hP8⟩
          · walk_at "go"
            exact ⟨_, _, _, _, _, rfl, by omega, by omega, by omega, by omega, by omega, e3, hP3⟩
        · clear x0 x1 y0 y1 xy e3 hP3
          rintro σ' H' ⟨x, y, u, v, w, rfl, x0, x1, y0, y1, xy, e3, hP3⟩
          have hM3 := hM.but e3 hP3.some
          walk_at "go"
          rename_i p4 H4 e4 hM4 h4
          have m0 := mod_two (x := x + turn) (n := n) (by omega) (by omega)
          have m1 := mod_two (x := y + turn) (n := n) (by omega) (by omega)
          obtain ⟨a, ha, ha0, ha1⟩ : ∃ a : Int, (x + turn) % n = a ∧ 0 ≤ a ∧ a < n := ⟨_, rfl, by split at m0 <;> omega, by split at m0 <;> omega⟩
          obtain ⟨b, hb, hb0, hb1⟩ : ∃ b : Int, (y + turn) % n = b ∧ 0 ≤ b ∧ b < n := ⟨_, rfl, by split at m1 <;> omega, by split at m1 <;> omega⟩
          have ab : a ≠ b := by split at m0 <;> split at m1 <;> omega
          rw [ha, hb] at h4
          refine q H4 p4 (if b < a then b else a).toNat (if b > a then b else a).toNat (e3.trans e4.but) (hP3.ext e4) hM4 ?_ ?_ ?_
          · split <;> split <;> omega
          · split <;> omega
          · rw [Int.toNat_of_nonneg (by split <;> omega), Int.toNat_of_nonneg (by split <;> omega)]
            exact h4
def sp__law_web (K : PySem.W.Frag) : Sp := fun vs H Q _ => ∃ (pl : Addr) (lo many : Int) (M : List Addr), vs = [.ref pl, .int lo, .int many] ∧ 1 ≤ lo ∧ lo ≤ 7 ∧ 0 ≤ many ∧ many ≤ 40 ∧ PileAt H pl ∧ pl ∈ M ∧ Dom M H ∧
  ∀ H' p (n : Nat) ts, But pl H H' → PileAt H' pl → Dom M H' → lo ≤ n → n ≤ 7 → ts.length ≤ 40 → okTies n ts → Dp K (vis M H') (.ref p) (dWeb n ts) → Q (.ref p) H'
theorem ok__law_web {P : Program} {w : World} {K : PySem.W.Frag} {mg : Str → Option Value} {base : Heap} (T : Txt K mg) (O__law_take : OkF P w K mg base CX0 2 "_law_take" ["_law_pile_here", "_law_many"] (sp__law_take K)) (O__law_tie : OkF P w K mg base CX0 3 "_law_tie" ["_law_pile_here", "_law_n", "_law_way", "_law_turn"] (sp__law_tie K)) : OkF P w K mg base CX0 4 "_law_web" ["_law_pile_here", "_law_least", "_law_many"] (sp__law_web K) := by
  refine okF0 T.f__law_web sc__law_web (fun vs H Q E h => ?_) (fun _ _ _ _ _ _ us hl => match us, hl with | [_, _, _], _ => rfl) (fun cdv A outer s H vs Q E hr h => ?_)
  · obtain ⟨pl, lo, many, M, rfl, hlo, hlo2, hm0, hm1, hP, hm, hM, q⟩ := h
    rfl
  · have hu := hu_of hr
    have kt : KTok K := rfl
    refine ⟨_, (pss_cons (ps_set (i := 3) sc__law_web.nd rfl (Or.inr rfl) (pe_op op_add (pv 1) (pe_callF O__law_take (hr.mono (by decide)) (by rfl) pass0 (pa_cons (pv 0) (pa_cons (pe_op op_sub pe_int (pv 1)) pa_nil)))))
      (pss_cons (ps_set (i := 4) sc__law_web.nd rfl (Or.inr rfl) (pe_op op_mod (pe_callF O__law_take (hr.mono (by decide)) (by rfl) pass0 (pa_cons (pv 0) (pa_cons pe_int pa_nil))) pe_int))
      (pss_cons (ps_set (i := 5) sc__law_web.nd rfl (Or.inr rfl) (pe_callF O__law_take (hr.mono (by decide)) (by rfl) pass0 (pa_cons (pv 0) (pa_cons (pv 3) pa_nil))))
      (pss_cons (ps_set (i := 6) sc__law_web.nd rfl (Or.inl rfl) (pe_ix ix_list (pe_lst (pa_cons (pe_callF O__law_take (hr.mono (by decide)) (by rfl) pass0 (pa_cons (pv 0) (pa_cons pe_int pa_nil))) (pa_cons (pe_callF O__law_take (hr.mono (by decide)) (by rfl) pass0 (pa_cons (pv 0) (pa_cons (pe_op op_add (pv 2) pe_int) pa_nil))) pa_nil))) (pe_callF O__law_take (hr.mono (by decide)) (by rfl) pass0 (pa_cons (pv 0) (pa_cons pe_int pa_nil))) (fun _ _ => rfl)))
      (pss_one (ps_ret (pe_tup (pa_cons (pv 3) (pa_cons (pe_lc (own := [("_law_k", 7)]) (g := (gName 7)) (tt := tYes) (by rfl) sc__law_web.nd (pi_range1 (by rfl) T.m_range (pa_cons (pe_op op_mul (pv 6) (pe_callTy cn_int (by rfl) T.m_int (by decide +kernel) (pa_cons (pe_cmpR op_gt (pv 3) pe_int (nomark _)) pa_nil))) pa_nil)) (blkOk_by (own := [("_law_k", 7)]) (N := ["_law_pile_here", "_law_least", "_law_many", "_law_n", "_law_way", "_law_turn", "_law_much", "_law_k"]) (sc := defScope s__law_web) (by decide +kernel)) (fun _ _ _ _ _ => (pg_name (i := 7) sc__law_web.nd rfl (Or.inl rfl))) (fun _ _ _ _ _ => pts_nil) (fun _ _ _ _ _ => (pe_callF O__law_tie (hr.mono (by decide)) (by rfl) pass0 (pa_cons (pv 0) (pa_cons (pv 3) (pa_cons (pv 4) (pa_cons (pv 5) pa_nil))))))) pa_nil))))))))), ?_⟩
    obtain ⟨pl, lo, many, M, rfl, hlo, hlo2, hm0, hm1, hP, hm, hM, q⟩ := h
    try dsimp only [cxOf, Cx.nox, Cx.wish]
    refine start_as (σ := [some _, some _, some _, none, none, none, none, none]) rfl ?_
    walk_at "go"
    refine ⟨pl, 8 - lo, rfl, by omega, by omega, hP, fun H1 r1 e1 hP1 r10 r11 => ?_⟩
    obtain ⟨n, hn⟩ : ∃ n : Nat, lo + r1 = n := ⟨(lo + r1).toNat, by omega⟩
    walk_at "go"
    rw [hn]
    refine ⟨pl, 6, rfl, by omega, by omega, hP1, fun H2 r2 e2 hP2 r20 r21 => ?_⟩
    walk_at "go"
    refine ⟨pl, n, rfl, by omega, by omega, hP2, fun H3 tn e3 hP3 t0 t1 => ?_⟩
    walk_at "go"
    refine ⟨pl, 9, rfl, by omega, by omega, hP3, fun H4 r4 e4 hP4 r40 r41 => ?_⟩
    walk_at "go"
    refine ⟨pl, many + 1, rfl, by omega, by omega, hP4, fun H5 r5 e5 hP5 r50 r51 => ?_⟩
    have e05 := e1.trans (e2.trans (e3.trans (e4.trans e5)))
    have hM5 := hM.but e05 hP5.some
    walk_at "go"
    rename_i p6 H6 e6 hM6 h6
    refine ⟨pl, 2, rfl, by omega, by omega, hP5.ext e6, fun H7 r7 e7 hP7 r70 r71 => ?_⟩
    refine w_ixI [r4, r5] (dpb e7 hm h6) r70 r71 fun mu hmu => ?_
    have hmu : 0 ≤ mu ∧ mu ≤ 40 := by
      rcases List.mem_cons.mp hmu with rfl | h
      · omega
      · rw [List.mem_singleton.mp h]; omega
    have e07 := e05.trans (e6.but.trans e7)
    have hM7 := hM.but e07 hP7.some
    walk_at "go"
    have c1 : mu * (if decide ((1 : Int) < n) = true then (1 : Int) else 0) = if 1 < n then mu else 0 := by
      by_cases c : 1 < n
      · rw [if_pos c, decide_eq_true (by omega), if_pos rfl]; omega
      · rw [if_neg c, decide_eq_false (by omega), if_neg Bool.false_ne_true]; omega
    rw [c1]
    have c2 : 0 ≤ (if 1 < n then mu else 0) ∧ (if 1 < n then mu else 0) ≤ 40 := by split <;> omega
    refine i_rng1D (by omega) (by omega) ?_
    refine lx_R (K := K) (M := M) pl (fun d => ∃ t : Nat × Nat, d = dTie t ∧ t.1 < t.2 ∧ t.2 < n) (by omega) hM7 hm hP7 (fun D i H8 hi e8 hM8 hD hP8 Ky k1 => ?_) (fun D H8 ds hl hok e8 hM8 hP8 hD h8 => ?_)
    · have n1 : 1 < n := by
        by_cases c : 1 < n
        · exact c
        · rw [if_neg c] at hi; exact absurd hi (by omega)
      walk_at "go"
      refine ⟨rfl, ?_⟩
      walk_at "go"
      refine ⟨pl, n, r2 % 4, tn, D :: M, rfl, by omega, by omega, by omega, by omega, hP8, List.mem_cons_of_mem _ hm, hM8, fun H9 p a b e9 hP9 hM9 hab hb hd => ?_⟩
      exact k1 _ _ _ ⟨(a, b), rfl, hab, by omega⟩ e9 hP9 hd
    · obtain ⟨ts, rfl, ok⟩ := ties_of hok
      rw [List.length_map] at hl
      have h8 := h8.dp
      walk_at "go"
      refine q _ _ n ts (e07.trans (e8.trans (Ext.but (by assumption)))) (hP8.ext (by assumption)) (by assumption) (by omega) (by omega) (by omega) ok (by assumption)
def sp_number_in (K : PySem.W.Frag) : Sp := fun vs H Q _ => ∃ n : Nat, vs = [.str (nz n)] ∧ n < 10 ^ 40 ∧ ∀ H', Ext H H' → Q (.int n) H'
theorem ok_number_in {P : Program} {w : World} {K : PySem.W.Frag} {mg : Str → Option Value} {base : Heap} (T : Txt K mg) : OkF P w K mg base CX0 1 "number_in" ["word"] (sp_number_in K) := by
  refine okF0 T.f_number_in sc_number_in (fun vs H Q E h => ?_) (fun _ _ _ _ _ _ us hl => match us, hl with | [_], _ => rfl) (fun cdv A outer s H vs Q E hr h => ?_)
  · obtain ⟨n, rfl, hn, q⟩ := h
    rfl
  · have hu := hu_of hr
    have kt : KTok K := rfl
    refine ⟨_, (pss_cons (ps_if (PW.pt (pw_or (pt_cmpR op_eq (pv 0) pe_str (nomark _)) (pw_or (pt_cmpR op_gt (pe_callB cn_lenZ (by rfl) T.m_len (by decide +kernel) (pa_cons (pv 0) pa_nil)) pe_int (nomark _)) (pw_or1 (PW.pt (pw_and (pt_cmpR op_eq (pe_ix ix_str (pv 0) pe_int (fun _ _ => rfl)) pe_str (nomark _)) (pw_and1 (pt_cmpR op_ne (pv 0) pe_str (nomark _))))))))) (pss_one ps_never) pss_nil)
      (pss_cons (ps_if (pt_val (pe_callB (cr_any rfl) (by rfl) T.m_any (by decide +kernel) (pa_cons (pe_lc (own := [("sign", 1)]) (g := (gName 1)) (tt := tYes) (by rfl) sc_number_in.nd (pi_str (pv 0)) (blkOk_by (own := [("sign", 1)]) (N := ["word", "sign"]) (sc := defScope s_number_in) (by decide +kernel)) (fun _ _ _ _ _ => (pg_name (i := 1) sc_number_in.nd rfl (Or.inl rfl))) (fun _ _ _ _ _ => pts_nil) (fun _ _ _ _ _ => (pe_cmpR on_niSg (pv 1) (pe_gS rfl T.c_FIGURES) (by rfl)))) pa_nil))) (pss_one ps_never) pss_nil)
      (pss_one (ps_ret (pe_callTy cn_intZ (by rfl) T.m_int (by decide +kernel) (pa_cons (pv 0) pa_nil)))))), ?_⟩
    obtain ⟨n, rfl, hn, q⟩ := h
    try dsimp only [cxOf, Cx.nox, Cx.wish]
    refine start_as (σ := [some _, none]) rfl ?_
    have hM : Dom [] H := Dom.nil
    have hl := nz_le hn
    walk_at "go"
    refine w_no (nz_ne n) ?_
    walk_at "go"
    refine w_lenZ (by omega) ?_
    walk_at "go"
    refine w_no (by omega) ?_
    walk_at "go"
    obtain ⟨c, hc, hz⟩ := nz_first (n := n)
    refine w_ixS (by omega) hc ?_
    walk_at "go"
    refine w_ite (fun c1 => ?_) (fun _ => ?_)
    all_goals (try (walk_at "go"; refine w_noN (hz (one_sign c1)) ?_))
    all_goals
      walk_at "go"
      refine lm_S (K := K) (M := []) (fun c => !decide (c ∈ ("0123456789" : Str).cps.toList)) PyData.bool (by omega) hM (fun D i c H2 hc e dm hD Ky k1 => ?_) (fun D H' e dm hD hd => ?_)
      · walk_at "go"
        refine ⟨rfl, ?_⟩
        walk_at "go"
        exact k1 _ _ (Ext.refl _) (.bl _)
      · walk_at "go"
        refine rAny_ok _ hd.dp ?_
        rw [all_filterMap_false _ _ (fun c hc => by rw [nz_cps] at hc; rw [decide_eq_true (in_figs (numL_mem hc))]; rfl)]
        walk_at "go"
        refine w_intZ (nz_int hn) (by omega) ?_
        exact q _ e
def sp_pair_in (K : PySem.W.Frag) : Sp := fun vs H Q _ => ∃ (a b : Nat) (M : List Addr), vs = [.str (pz a b)] ∧ a < 10 ^ 40 ∧ b < 10 ^ 40 ∧ Dom M H ∧ ∀ p H', Ext H H' → Dom M H' → Dp K (vis M H') (.ref p) (.tuple [.int a, .int b]) → Q (.ref p) H'
theorem ok_pair_in {P : Program} {w : World} {K : PySem.W.Frag} {mg : Str → Option Value} {base : Heap} (T : Txt K mg) (O_number_in : OkF P w K mg base CX0 1 "number_in" ["word"] (sp_number_in K)) : OkF P w K mg base CX0 2 "pair_in" ["word"] (sp_pair_in K) := by
  refine okF0 T.f_pair_in sc_pair_in (fun vs H Q E h => ?_) (fun _ _ _ _ _ _ us hl => match us, hl with | [_], _ => rfl) (fun cdv A outer s H vs Q E hr h => ?_)
  · obtain ⟨a, b, M, rfl, ha, hb, hM, q⟩ := h
    rfl
  · have hu := hu_of hr
    have kt : KTok K := rfl
    refine ⟨_, (pss_cons (ps_set (i := 1) sc_pair_in.nd rfl (Or.inl rfl) (pn_split (pv 0) pe_str))
      (pss_cons (ps_if (pt_cmpR op_ne (pe_callB cn_len (by rfl) T.m_len (by decide +kernel) (pa_cons (pv 1) pa_nil)) pe_int (nomark _)) (pss_one ps_never) pss_nil)
      (pss_one (ps_ret (pe_tup (pa_cons (pe_callF O_number_in (hr.mono (by decide)) (by rfl) pass0 (pa_cons (pe_ix ix_list (pv 1) pe_int (fun _ _ => rfl)) pa_nil)) (pa_cons (pe_callF O_number_in (hr.mono (by decide)) (by rfl) pass0 (pa_cons (pe_ix ix_list (pv 1) pe_int (fun _ _ => rfl)) pa_nil)) pa_nil))))))), ?_⟩
    obtain ⟨a, b, M, rfl, ha, hb, hM, q⟩ := h
    try dsimp only [cxOf, Cx.nox, Cx.wish]
    refine start_as (σ := [some _, none]) rfl ?_
    have la := nz_le ha
    have lb := nz_le hb
    walk_at "go"
    refine w_split kt hM (by decide +kernel) (by rw [pz_len]; omega) fun p H1 e1 hM1 hd => ?_
    rw [split_pz] at hd
    walk_at "go"
    refine w_lenL hd ?_
    walk_at "go"
    refine w_noN (by rfl) ?_
    walk_at "go"
    refine w_ixStr hd rfl ?_
    walk_at "go"
    refine ⟨a, rfl, ha, fun H2 e2 => ?_⟩
    have hd2 := dpx e2 hd
    walk_at "go"
    refine w_ixStr hd2 rfl ?_
    walk_at "go"
    refine ⟨b, rfl, hb, fun H3 e3 => ?_⟩
    have hM3 := hM1.ext (e2.trans e3)
    walk_at "go"
    refine q _ _ ?_ (by assumption) (by assumption)
    exact e1.trans (e2.trans (e3.trans (by assumption)))
def sp_show_pair (K : PySem.W.Frag) : Sp := fun vs H Q _ => ∃ (x : V) (a b : Nat) (M : List Addr), vs = [x] ∧ Dp K (vis M H) x (.tuple [.int a, .int b]) ∧ a < 10 ^ 40 ∧ b < 10 ^ 40 ∧ Q (.str (pz a b)) H
theorem ok_show_pair {P : Program} {w : World} {K : PySem.W.Frag} {mg : Str → Option Value} {base : Heap} (T : Txt K mg) : OkF P w K mg base CX0 1 "show_pair" ["pair"] (sp_show_pair K) := by
  refine okF0 T.f_show_pair sc_show_pair (fun vs H Q E h => ?_) (fun _ _ _ _ _ _ us hl => match us, hl with | [_], _ => rfl) (fun cdv A outer s H vs Q E hr h => ?_)
  · obtain ⟨x, a, b, M, rfl, hd, ha, hb, q⟩ := h
    rfl
  · have hu := hu_of hr
    have kt : KTok K := rfl
    refine ⟨_, (pss_one (ps_ret (pe_joined (.cons (pe_fmt (pe_ix ix_tup (pv 0) pe_int (fun _ _ => rfl))) (.cons pe_str (.cons (pe_fmt (pe_ix ix_tup (pv 0) pe_int (fun _ _ => rfl))) .nil)))))), ?_⟩
    obtain ⟨x, a, b, M, rfl, hd, ha, hb, q⟩ := h
    try dsimp only [cxOf, Cx.nox, Cx.wish]
    refine start_as (σ := [some _]) rfl ?_
    have la := nz_le ha
    have lb := nz_le hb
    have l1 := one_dash
    walk_at "go"
    refine w_fmtN ha ?_
    refine w_jsS (by rw [len_empty]; omega) ?_
    rw [empty_app]
    walk_at "go"
    refine w_jsS (by omega) ?_
    walk_at "go"
    refine w_fmtN hb ?_
    refine w_jsS (by rw [len_app]; omega) ?_
    walk_at "go"
    exact q
def sp_show_web (K : PySem.W.Frag) : Sp := fun vs H Q _ => ∃ (x : V) (n : Nat) (ts : List (Nat × Nat)) (M : List Addr), vs = [x] ∧ Dp K (vis M H) x (dWeb n ts) ∧ n ≤ 7 ∧ ts.length ≤ 40 ∧ okTies n ts ∧ Dom M H ∧ ∀ H', Ext H H' → Dom M H' → Q (.str (lineOf n ts)) H'
theorem ok_show_web {P : Program} {w : World} {K : PySem.W.Frag} {mg : Str → Option Value} {base : Heap} (T : Txt K mg) (O_show_pair : OkF P w K mg base CX0 1 "show_pair" ["pair"] (sp_show_pair K)) : OkF P w K mg base CX0 2 "show_web" ["web"] (sp_show_web K) := by
  refine okF0 T.f_show_web sc_show_web (fun vs H Q E h => ?_) (fun _ _ _ _ _ _ us hl => match us, hl with | [_], _ => rfl) (fun cdv A outer s H vs Q E hr h => ?_)
  · obtain ⟨x, n, ts, M, rfl, hd, hn, hl, ok, hM, q⟩ := h
    rfl
  · have hu := hu_of hr
    have kt : KTok K := rfl
    refine ⟨_, (pss_one (ps_ret (pn_join pe_str (pe_op op_cat (pe_lst (pa_cons (pe_callTy cn_str (by rfl) T.m_str (by decide +kernel) (pa_cons (pe_ix ix_tup (pv 0) pe_int (fun _ _ => rfl)) pa_nil)) pa_nil)) (pe_lc (own := [("tie", 1)]) (g := (gName 1)) (tt := tYes) (by rfl) sc_show_web.nd (pi_list (pe_ix ix_tup (pv 0) pe_int (fun _ _ => rfl))) (blkOk_by (own := [("tie", 1)]) (N := ["web", "tie"]) (sc := defScope s_show_web) (by decide +kernel)) (fun _ _ _ _ _ => (pg_name (i := 1) sc_show_web.nd rfl (Or.inl rfl))) (fun _ _ _ _ _ => pts_nil) (fun _ _ _ _ _ => (pe_callF O_show_pair (hr.mono (by decide)) (by rfl) pass0 (pa_cons (pv 1) pa_nil)))))))), ?_⟩
    obtain ⟨x, n, ts, M, rfl, hd, hn, hl, ok, hM, q⟩ := h
    try dsimp only [cxOf, Cx.nox, Cx.wish]
    refine start_as (σ := [some _, none]) rfl ?_
    have ln := nz_le (n := n) (by omega)
    walk_at "go"
    refine w_strI (nat_log (by omega)) ?_
    walk_at "go0"
    refine w_newLst kt hM (.cons (.str (nz n)) .nil) (by exact Nat.le_of_ble_eq_true rfl) fun p H1 e1 hM1 h1 => ?_
    have hd1 := dpx e1 hd
    walk_at "go"
    refine w_ixT hd1 rfl fun v hv => ?_
    walk_at "go"
    refine i_listD hv fun a xs ea hL hA => ?_
    refine lm_L (K := K) (M := M) ts dTie (fun t => pz t.1 t.2) PyData.str (by omega) hM1 hL hA (fun D i t x2 H2 hi e2 dm hD hx Ky k1 => ?_) (fun D H2 e2 hM2 hD h2 => ?_)
    · have ot := ok t (List.mem_of_getElem? hi)
      walk_at "go"
      refine ⟨rfl, ?_⟩
      walk_at "go"
      refine ⟨x2, t.1, t.2, D :: M, rfl, hx, by omega, by omega, k1 _ _ (Ext.refl _) (.str _)⟩
    · refine w_catD hM2 (h1.ext e2) h2 (by simp; omega) fun p2 H3 e3 hM3 h3 => ?_
      refine w_join (nz n :: pzs ts) h3.dp ?_ (q _ (e1.trans (e2.trans e3)) hM3)
      rw [one_blank, List.map_cons, List.sum_cons, List.length_cons]
      have := pzs_sum hn ok
      have l2 : (pzs ts).length = ts.length := List.length_map _
      rw [l2]
      omega
def sp_is_tie (K : PySem.W.Frag) : Sp := fun vs H Q _ => ∃ (n : Nat) (x : V) (a b : Nat) (M : List Addr), vs = [.int n, x] ∧ Dp K (vis M H) x (.tuple [.int a, .int b]) ∧ a < b ∧ b < n ∧ Q (.bl true) H
theorem ok_is_tie {P : Program} {w : World} {K : PySem.W.Frag} {mg : Str → Option Value} {base : Heap} (T : Txt K mg) : OkF P w K mg base CX0 1 "is_tie" ["n", "tie"] (sp_is_tie K) := by
  refine okF0 T.f_is_tie sc_is_tie (fun vs H Q E h => ?_) (fun _ _ _ _ _ _ us hl => match us, hl with | [_, _], _ => rfl) (fun cdv A outer s H vs Q E hr h => ?_)
  · obtain ⟨n, x, a, b, M, rfl, hd, h1, h2, q⟩ := h
    rfl
  · have hu := hu_of hr
    have kt : KTok K := rfl
    refine ⟨_, (pss_one (ps_ret (pe_chain3 op_le op_lt op_lt pe_int (pe_ix ix_tup (pv 1) pe_int (fun _ _ => rfl)) (pe_ix ix_tup (pv 1) pe_int (fun _ _ => rfl)) (pv 0)))), ?_⟩
    obtain ⟨n, x, a, b, M, rfl, hd, h1, h2, q⟩ := h
    try dsimp only [cxOf, Cx.nox, Cx.wish]
    refine start_as (σ := [some _, some _]) rfl ?_
    walk_at "go"
    refine w_yes (by omega) ?_
    walk_at "go"
    refine w_yes (by omega) ?_
    walk_at "go"
    rw [decide_eq_true (by omega)]
    exact q
def sp_look_at_web (K : PySem.W.Frag) : Sp := fun vs H Q _ => ∃ (x : V) (n : Nat) (ts : List (Nat × Nat)) (M : List Addr), vs = [x] ∧ Dp K (vis M H) x (dWeb n ts) ∧ 1 ≤ n ∧ n ≤ 7 ∧ ts.length ≤ 40 ∧ okTies n ts ∧ Dom M H ∧ ∀ H', Ext H H' → Q .non H'
theorem ok_look_at_web {P : Program} {w : World} {K : PySem.W.Frag} {mg : Str → Option Value} {base : Heap} (T : Txt K mg) (O_is_tie : OkF P w K mg base CX0 1 "is_tie" ["n", "tie"] (sp_is_tie K)) : OkF P w K mg base CX0 2 "look_at_web" ["web"] (sp_look_at_web K) := by
  refine okF0 T.f_look_at_web sc_look_at_web (fun vs H Q E h => ?_) (fun _ _ _ _ _ _ us hl => match us, hl with | [_], _ => rfl) (fun cdv A outer s H vs Q E hr h => ?_)
  · obtain ⟨x, n, ts, M, rfl, hd, h1, h7, hl, ok, hM, q⟩ := h
    rfl
  · have hu := hu_of hr
    have kt : KTok K := rfl
    refine ⟨_, (pss_cons (ps_asg (pv 0) (pg_tup rfl (pgs_cons (pg_name (i := 1) sc_look_at_web.nd rfl (Or.inl rfl)) (pgs_cons (pg_name (i := 2) sc_look_at_web.nd rfl (Or.inl rfl)) pgs_nil))))
      (pss_cons (ps_if (PW.pt (pw_or (pt_cmpR op_lt (pv 1) pe_int (nomark _)) (pw_or1 (pt_cmpR op_gt (pv 1) pe_int (nomark _))))) (pss_one ps_never) pss_nil)
      (pss_cons (ps_if (pt_cmpR op_gt (pe_callB cn_len (by rfl) T.m_len (by decide +kernel) (pa_cons (pv 2) pa_nil)) pe_int (nomark _)) (pss_one ps_never) pss_nil)
      (pss_one (ps_for PassesOwn.never rfl (pi_enum (by rfl) T.m_enumerate (pa_cons (pv 2) pa_nil)) (pg_tup rfl (pgs_cons (pg_name (i := 3) sc_look_at_web.nd rfl (Or.inl rfl)) (pgs_cons (pg_name (i := 4) sc_look_at_web.nd rfl (Or.inl rfl)) pgs_nil)))
        (pss_one (ps_if (pt_not (pt_val (pe_callF O_is_tie (hr.mono (by decide)) (by rfl) pass0 (pa_cons (pv 1) (pa_cons (pv 4) pa_nil))))) (pss_one ps_never) pss_nil))))))), ?_⟩
    obtain ⟨x, n, ts, M, rfl, hd, h1, h7, hl, ok, hM, q⟩ := h
    try dsimp only [cxOf, Cx.nox, Cx.wish]
    refine start_as (σ := [some _, none, none, none, none]) rfl ?_
    walk_at "go"
    refine g_tup2 hd fun v1 v2 d1 d2 => ?_
    cases dp_int d1
    walk_at "go"
    refine w_no (by omega) ?_
    walk_at "go"
    refine w_no (by omega) ?_
    walk_at "go"
    refine w_lenL d2 ?_
    walk_at "go"
    refine w_no (by rw [List.length_map]; omega) ?_
    walk_at "go"
    refine i_enumD d2 fun a xs ea hL hA => ?_
    refine f_E ts dTie hL hA (fun i σ' H' => Ext H H' ∧ ∃ u v, σ' = [some x, some (.int n), some v2, u, v]) ⟨Ext.refl H, _, _, rfl⟩ (fun i σ' H' _ h => vis_mono h.1) (fun i t y T σ' H1 H2 hi hp e hT hS hd2 => ?_) (fun σ' H' h => q H' h.1)
    obtain ⟨e1, u, v, rfl⟩ := hp
    have ot := ok t (List.mem_of_getElem? hi)
    refine g_raw2 hS ?_
    walk_at "go"
    refine ⟨n, y, t.1, t.2, M, rfl, hd2, ot.1, ot.2, ?_⟩
    walk_at "go"
    exact ⟨e1.trans e, _, _, rfl⟩
def sp_tie_in (K : PySem.W.Frag) : Sp := fun vs H Q _ => ∃ (a b : Nat) (M : List Addr), vs = [.str (pz a b)] ∧ a < b ∧ b < 10 ^ 40 ∧ Dom M H ∧ ∀ p H', Ext H H' → Dom M H' → Dp K (vis M H') (.ref p) (.tuple [.int a, .int b]) → Q (.ref p) H'
theorem ok_tie_in {P : Program} {w : World} {K : PySem.W.Frag} {mg : Str → Option Value} {base : Heap} (T : Txt K mg) (O_pair_in : OkF P w K mg base CX0 2 "pair_in" ["word"] (sp_pair_in K)) : OkF P w K mg base CX0 3 "tie_in" ["word"] (sp_tie_in K) := by
  refine okF0 T.f_tie_in sc_tie_in (fun vs H Q E h => ?_) (fun _ _ _ _ _ _ us hl => match us, hl with | [_], _ => rfl) (fun cdv A outer s H vs Q E hr h => ?_)
  · obtain ⟨a, b, M, rfl, ha, hb, hM, q⟩ := h
    rfl
  · have hu := hu_of hr
    have kt : KTok K := rfl
    refine ⟨_, (pss_cons (ps_asg (pe_callF O_pair_in (hr.mono (by decide)) (by rfl) pass0 (pa_cons (pv 0) pa_nil)) (pg_tup rfl (pgs_cons (pg_name (i := 1) sc_tie_in.nd rfl (Or.inl rfl)) (pgs_cons (pg_name (i := 2) sc_tie_in.nd rfl (Or.inl rfl)) pgs_nil))))
      (pss_cons (ps_if (pt_cmpR op_ge (pv 1) (pv 2) (nomark _)) (pss_one ps_never) pss_nil)
      (pss_one (ps_ret (pe_tup (pa_cons (pv 1) (pa_cons (pv 2) pa_nil))))))), ?_⟩
    obtain ⟨a, b, M, rfl, ha, hb, hM, q⟩ := h
    try dsimp only [cxOf, Cx.nox, Cx.wish]
    refine start_as (σ := [some _, none, none]) rfl ?_
    walk_at "go"
    refine ⟨a, b, M, rfl, by omega, hb, hM, fun p H1 e1 hM1 hd => ?_⟩
    refine g_tup2 hd fun v1 v2 h1 h2 => ?_
    cases dp_int h1
    cases dp_int h2
    walk_at "go"
    refine w_no (by omega) ?_
    walk_at "go"
    refine q _ _ (e1.trans (by assumption)) (by assumption) (by assumption)
def sp_read_web (K : PySem.W.Frag) : Sp := fun vs H Q _ => ∃ (n : Nat) (ts : List (Nat × Nat)) (M : List Addr), vs = [.str (lineOf n ts)] ∧ 1 ≤ n ∧ n ≤ 7 ∧ ts.length ≤ 40 ∧ okTies n ts ∧ Dom M H ∧ ∀ p l H', Ext H H' → Dom M H' → H p = none → H l = none → H' p = some (.tup [.int n, .ref l]) → Lst K M H' l (ts.map dTie) → Q (.ref p) H'
theorem ok_read_web {P : Program} {w : World} {K : PySem.W.Frag} {mg : Str → Option Value} {base : Heap} (T : Txt K mg) (O_number_in : OkF P w K mg base CX0 1 "number_in" ["word"] (sp_number_in K)) (O_tie_in : OkF P w K mg base CX0 3 "tie_in" ["word"] (sp_tie_in K)) (O_look_at_web : OkF P w K mg base CX0 2 "look_at_web" ["web"] (sp_look_at_web K)) : OkF P w K mg base CX0 4 "read_web" ["text"] (sp_read_web K) := by
  refine okF0 T.f_read_web sc_read_web (fun vs H Q E h => ?_) (fun _ _ _ _ _ _ us hl => match us, hl with | [_], _ => rfl) (fun cdv A outer s H vs Q E hr h => ?_)
  · obtain ⟨n, ts, M, rfl, h1, h7, hl, ok, hM, q⟩ := h
    rfl
  · have hu := hu_of hr
    have kt : KTok K := rfl
    refine ⟨_, (pss_cons (ps_set (i := 1) sc_read_web.nd rfl (Or.inl rfl) (pn_split (pv 0) pe_str))
      (pss_cons (ps_set (i := 2) sc_read_web.nd rfl (Or.inl rfl) (pe_tup (pa_cons (pe_callF O_number_in (hr.mono (by decide)) (by rfl) pass0 (pa_cons (pe_ix ix_list (pv 1) pe_int (fun _ _ => rfl)) pa_nil)) (pa_cons (pe_lc (own := [("word", 3)]) (g := (gName 3)) (tt := tYes) (by rfl) sc_read_web.nd (pi_list (pe_slice sl_list (pv 1) (po_some pe_int) po_none)) (blkOk_by (own := [("word", 3)]) (N := ["text", "words", "web", "word"]) (sc := defScope s_read_web) (by decide +kernel)) (fun _ _ _ _ _ => (pg_name (i := 3) sc_read_web.nd rfl (Or.inl rfl))) (fun _ _ _ _ _ => pts_nil) (fun _ _ _ _ _ => (pe_callF O_tie_in (hr.mono (by decide)) (by rfl) pass0 (pa_cons (pv 3) pa_nil)))) pa_nil))))
      (pss_cons (ps_try_thru0 (pss_one (ps_expr (pe_callF O_look_at_web (hr.mono (by decide)) (by rfl) pass0 (pa_cons (pv 2) pa_nil)))))
      (pss_one (ps_ret (pv 2)))))), ?_⟩
    obtain ⟨n, ts, M, rfl, h1, h7, hl, ok, hM, q⟩ := h
    try dsimp only [cxOf, Cx.nox, Cx.wish]
    refine start_as (σ := [some _, none, none, none]) rfl ?_
    have ln := line_len h7 hl ok
    walk_at "go"
    refine w_split kt hM (by decide +kernel) (by omega) fun w H1 e1 hM1 hw => ?_
    rw [split_line] at hw
    walk_at "go"
    refine w_ixStr hw (atI_nat (j := 0) rfl) ?_
    walk_at "go"
    refine ⟨n, rfl, by omega, fun H2 e2 => ?_⟩
    have hM2 := hM1.ext e2
    have hw2 := dpx e2 hw
    walk_at "go"
    refine w_slL hM2 hw2 fun ps H3 e3 hM3 hps => ?_
    have hps : Dp K (vis M H3) (.ref ps) (.list (ts.map fun t => PyData.str (pz t.1 t.2))) := by
      rw [show (1 : Int) = ((1 : Nat) : Int) from rfl, cutD_from] at hps
      have e : (nz n :: pzs ts).map PyData.str = PyData.str (nz n) :: ts.map (fun t => PyData.str (pz t.1 t.2)) := by rw [List.map_cons, pzs, List.map_map]; rfl
      rw [e] at hps
      exact hps
    walk_at "go"
    refine i_listD hps fun a xs ea hL hA => ?_
    refine lm_L (K := K) (M := M) ts (fun t => PyData.str (pz t.1 t.2)) id dTie (by omega) hM3 hL hA (fun D i t x2 H4 hi e4 dm hD hx Ky k1 => ?_) (fun l H4 e4 hM4 hl0 h4 => ?_)
    · have ot := ok t (List.mem_of_getElem? hi)
      cases dp_str hx
      walk_at "go"
      refine ⟨rfl, ?_⟩
      walk_at "go"
      refine ⟨t.1, t.2, D :: M, rfl, ot.1, by omega, dm, fun p H5 e5 dm5 hp5 => k1 _ _ e5 hp5⟩
    · rw [List.map_id] at h4
      walk_at "go0"
      refine w_newTR (by exact Nat.le_of_ble_eq_true rfl) fun p H5 hp e5 hp5 => ?_
      have e05 := e1.trans (e2.trans (e3.trans e4))
      have hM5 := hM4.ext e5
      have h5 := h4.ext e5
      have hw5 : Dp K (vis M H5) (.ref p) (dWeb n ts) := .tup (.inl (.inl (by rw [vis_out (hM4.new hp)]; exact hp5))) (.cons (.int n) (.cons h5.dp .nil))
      walk_at "go"
      refine ⟨.ref p, n, ts, M, rfl, hw5, h1, h7, hl, ok, hM5, fun H6 e6 => ?_⟩
      walk_at "go"
      exact q p l H6 (e05.trans (e5.trans e6)) (hM5.ext e6) (fresh_back e05 hp) (fresh_back (e1.trans (e2.trans e3)) hl0) (e6 _ _ hp5) (h5.ext e6)
def sp__law_whole (K : PySem.W.Frag) : Sp := fun vs H Q _ => ∃ i : Int, vs = [.int i] ∧ Q (.bl true) H
theorem ok__law_whole {P : Program} {w : World} {K : PySem.W.Frag} {mg : Str → Option Value} {base : Heap} (T : Txt K mg) : OkF P w K mg base CX0 1 "_law_whole" ["_law_number"] (sp__law_whole K) := by
  refine okF0 T.f__law_whole sc__law_whole (fun vs H Q E h => ?_) (fun _ _ _ _ _ _ us hl => match us, hl with | [_], _ => rfl) (fun cdv A outer s H vs Q E hr h => ?_)
  · obtain ⟨i, rfl, q⟩ := h
    rfl
  · have hu := hu_of hr
    have kt : KTok K := rfl
    refine ⟨_, (pss_one (ps_ret (pe_and (pe_callB call_isi (by rfl) T.m_isinstance (by decide +kernel) (pa_cons (pv 0) (pa_cons (pe_bltn (v := .ty "int") (by rfl) T.m_int (by decide +kernel) rfl) pa_nil))) (pe_one (pe_not (pe_callB call_isi (by rfl) T.m_isinstance (by decide +kernel) (pa_cons (pv 0) (pa_cons (pe_bltn (v := .ty "bool") (by rfl) T.m_bool (by decide +kernel) rfl) pa_nil)))))))), ?_⟩
    obtain ⟨i, rfl, q⟩ := h
    try dsimp only [cxOf, Cx.nox, Cx.wish]
    refine start_as (σ := [some _]) rfl ?_
    walk_at "go"
    exact q
def sp__law_same (K : PySem.W.Frag) : Sp := fun vs H Q _ => ∃ (x y : V) (n : Nat) (ts : List (Nat × Nat)) (M : List Addr), vs = [x, .int n, y] ∧ Dp K (vis M H) x (dWeb n ts) ∧ Dp K (vis M H) y (.list (ts.map dTie)) ∧ ts.length ≤ 40 ∧ Dom M H ∧ ∀ H', Ext H H' → Q (.bl true) H'
theorem ok__law_same {P : Program} {w : World} {K : PySem.W.Frag} {mg : Str → Option Value} {base : Heap} (T : Txt K mg) (O__law_whole : OkF P w K mg base CX0 1 "_law_whole" ["_law_number"] (sp__law_whole K)) : OkF P w K mg base CX0 2 "_law_same" ["_law_told", "_law_n", "_law_ties"] (sp__law_same K) := by
  refine okF0 T.f__law_same sc__law_same (fun vs H Q E h => ?_) (fun _ _ _ _ _ _ us hl => match us, hl with | [_, _, _], _ => rfl) (fun cdv A outer s H vs Q E hr h => ?_)
  · obtain ⟨x, y, n, ts, M, rfl, hx, hy, hl, hM, q⟩ := h
    rfl
  · have hu := hu_of hr
    have kt : KTok K := rfl
    refine ⟨_, (pss_cons (ps_if (PW.pt (pw_or (pt_not (pt_val (pe_callB call_isi (by rfl) T.m_isinstance (by decide +kernel) (pa_cons (pv 0) (pa_cons (pe_bltn (v := .ty "tuple") (by rfl) T.m_tuple (by decide +kernel) rfl) pa_nil))))) (pw_or (pt_cmpR op_ne (pe_callB cn_len (by rfl) T.m_len (by decide +kernel) (pa_cons (pv 0) pa_nil)) pe_int (nomark _)) (pw_or (pt_not (pt_val (pe_callB call_isi (by rfl) T.m_isinstance (by decide +kernel) (pa_cons (pe_ix ix_tup (pv 0) pe_int (fun _ _ => rfl)) (pa_cons (pe_bltn (v := .ty "list") (by rfl) T.m_list (by decide +kernel) rfl) pa_nil))))) (pw_or1 (pt_cmpR (op_neD hr.units) (pv 0) (pe_tup (pa_cons (pv 1) (pa_cons (pv 2) pa_nil))) (nomark _))))))) (pss_one (ps_ret pe_bl)) pss_nil)
      (pss_cons (ps_set (i := 3) sc__law_same.nd rfl (Or.inl rfl) (pe_lst (pa_cons (pe_ix ix_tup (pv 0) pe_int (fun _ _ => rfl)) pa_nil)))
      (pss_cons (ps_for PassesOwn.never rfl (pi_list (pe_ix ix_tup (pv 0) pe_int (fun _ _ => rfl))) (pg_name (i := 4) sc__law_same.nd rfl (Or.inl rfl))
        (pss_cons (ps_if (pt_not (pt_val (pe_callB call_isi (by rfl) T.m_isinstance (by decide +kernel) (pa_cons (pv 4) (pa_cons (pe_bltn (v := .ty "tuple") (by rfl) T.m_tuple (by decide +kernel) rfl) pa_nil))))) (pss_one (ps_ret pe_bl)) pss_nil)
      (pss_one (ps_set (i := 3) sc__law_same.nd rfl (Or.inl rfl) (pe_op op_cat (pv 3) (pe_callTy cn_list (by rfl) T.m_list (by decide +kernel) (pa_cons (pv 4) pa_nil)))))))
      (pss_one (ps_ret (pe_cmpR (op_eqD hr.units) (pe_lc (own := [("_law_number", 5)]) (g := (gName 5)) (by rfl) sc__law_same.nd (pi_list (pv 3)) (blkOk_by (own := [("_law_number", 5)]) (N := ["_law_told", "_law_n", "_law_ties", "_law_numbers", "_law_tie_here", "_law_number"]) (sc := defScope s__law_same) (by decide +kernel)) (fun _ _ _ _ _ => (pg_name (i := 5) sc__law_same.nd rfl (Or.inl rfl))) (fun _ _ _ _ _ => (pts_one (pt_not (pt_val (pe_callF O__law_whole (hr.mono (by decide)) (by rfl) pass0 (pa_cons (pv 5) pa_nil)))))) (fun _ _ _ _ _ => pe_int)) (pe_lst pa_nil) (nomark _))))))), ?_⟩
    obtain ⟨x, y, n, ts, M, rfl, hx, hy, hl, hM, q⟩ := h
    try dsimp only [cxOf, Cx.nox, Cx.wish]
    refine start_as (σ := [some _, some _, some _, none, none, none]) rfl ?_
    walk_at "go"
    refine w_isiTT hx ?_
    walk_at "go"
    refine w_lenT hx ?_
    walk_at "go"
    refine w_noN (by rfl) ?_
    walk_at "go"
    refine w_ixT hx rfl fun v hv => ?_
    walk_at "go"
    refine w_isiLL hv ?_
    walk_at "go"
    refine w_neSame (d := dWeb n ts) (dpx (by assumption) hx) (by assumption) (shp_web n ts) (by decide) ?_
    rename_i p1 H1 e1 hM1 _
    have hx1 := dpx e1 hx
    walk_at "go0"
    walk_at "go0"
    refine w_newLst kt hM1 (.cons (.int n) .nil) (by exact Nat.le_of_ble_eq_true rfl) fun p2 H2 e2 hM2 h2 => ?_
    walk_at "go"
    have hx2 := dpx e2 hx1
    refine w_ixT hx2 rfl fun v2 hv2 => ?_
    refine i_listD hv2 fun a xs ea hL hA => ?_
    refine f_L ts dTie hL hA (fun i σ' H' => ∃ (p : Addr) (ns : List Int) (u : Option V), σ' = [some x, some (.int n), some y, some (.ref p), u, none] ∧ Ext H2 H' ∧ Dom M H' ∧ Lst K M H' p (ns.map PyData.int) ∧ ns.length = 1 + 2 * i) ⟨p2, [(n : Int)], none, rfl, Ext.refl _, hM2, h2, rfl⟩ (fun i σ' H' hi ⟨_, _, _, _, e, _⟩ => vis_mono e) ?_ ?_
    · rintro i t z σ' H' hi ⟨p, ns, u, rfl, e, hM', hp, hlen⟩ hz
      have hil : i < ts.length := (List.getElem?_eq_some_iff.mp hi).1
      walk_at "go"
      refine w_isiTT hz ?_
      walk_at "go"
      refine w_listT hM' hz fun p3 H3 e3 hM3 hn3 h3 => ?_
      refine w_catD hM3 (hp.ext e3) h3 (by simp; omega) fun p4 H4 e4 hM4 h4 => ?_
      walk_at "go"
      refine ⟨p4, ns ++ [(t.1 : Int), (t.2 : Int)], _, rfl, e.trans (e3.trans e4), hM4, ?_, by simp; omega⟩
      rw [List.map_append]
      exact h4
    · rintro σ' H' ⟨p, ns, u, rfl, e, hM', hp, hlen⟩
      walk_at "go"
      refine i_listD hp.dp fun a2 xs2 ea2 hL2 hA2 => ?_
      refine lc_L (K := K) (M := M) ns PyData.int (fun _ => none) (by omega) hM' hL2 hA2 (fun D i z x5 H5 hi e5 dm hD hx5 Ky Kn k1 k2 => ?_) (fun D H5 e5 hM5 hD h5 => ?_)
      · cases dp_int hx5
        walk_at "go"
        refine ⟨rfl, ?_⟩
        walk_at "go"
        refine ⟨z, rfl, ?_⟩
        walk_at "go"
        exact k2 rfl _ (Ext.refl _)
      · rw [show ns.filterMap (fun _ => (none : Option PyData)) = [] by simp] at h5
        walk_at "go"
        rename_i p6 H6 e6 hM6 h6
        exact w_eqSame (k := 1) (d := .list []) (dpx e6 h5.dp) h6 (.list fun _ h => nomatch h) (by decide) (q H6 (e1.trans (e2.trans (e.trans (e5.trans e6)))))
def sp_law (K : PySem.W.Frag) : Sp := fun vs H Q _ => ∃ (a : Addr) (ns : List Int), vs = [.ref a] ∧ ns.length ≤ 63 ∧ SqL K H a (ns.map V.int) ∧ ∀ H', Q (.bl true) H'
theorem law_in {K : PySem.W.Frag} (H : Hp) (a : Addr) (ns : List Int) (hl : ns.length ≤ 63) (hS : SqL K H a (ns.map V.int)) : sp_law K [.ref a] H (fun v _ => v = .bl true) fun _ _ _ => False := ⟨a, ns, rfl, hl, hS, fun _ => rfl⟩
theorem two_line : ("2 0-1" : Str) = lineOf 2 [(0, 1)] := by decide +kernel
theorem ok_two : okTies 2 [(0, 1)] := fun t h => by
  rw [List.mem_singleton.mp h]; exact ⟨by decide, by decide⟩
theorem ok_law {P : Program} {w : World} {K : PySem.W.Frag} {mg : Str → Option Value} {base : Heap} (T : Txt K mg) (O__law_web : OkF P w K mg base CX0 4 "_law_web" ["_law_pile_here", "_law_least", "_law_many"] (sp__law_web K)) (O__law_pile : OkF P w K mg base CX0 1 "_law_pile" ["_law_script", "_law_k"] (sp__law_pile K)) (O_show_web : OkF P w K mg base CX0 2 "show_web" ["web"] (sp_show_web K)) (O_read_web : OkF P w K mg base CX0 4 "read_web" ["text"] (sp_read_web K)) (O__law_same : OkF P w K mg base CX0 2 "_law_same" ["_law_told", "_law_n", "_law_ties"] (sp__law_same K)) : OkF P w K mg base CX0 5 "law" ["_law_script"] (sp_law K) := by
  refine okF0 T.f_law sc_law (fun vs H Q E h => ?_) (fun _ _ _ _ _ _ us hl => match us, hl with | [_], _ => rfl) (fun cdv A outer s H vs Q E hr h => ?_)
  · obtain ⟨a, ns, rfl, hl, hS, q⟩ := h
    rfl
  · have hu := hu_of hr
    have kt : KTok K := rfl
    refine ⟨_, (pss_cons (ps_for PassesOwn.never rfl (pi_range1 (by rfl) T.m_range (pa_cons pe_int pa_nil)) (pg_name (i := 1) sc_law.nd rfl (Or.inl rfl))
        (pss_cons (ps_asg (pe_callF O__law_web (hr.mono (by decide)) (by rfl) pass0 (pa_cons (pe_callF O__law_pile (hr.mono (by decide)) (by rfl) pass0 (pa_cons (pv 0) (pa_cons (pv 1) pa_nil))) (pa_cons pe_int (pa_cons pe_int pa_nil)))) (pg_tup rfl (pgs_cons (pg_name (i := 2) sc_law.nd rfl (Or.inl rfl)) (pgs_cons (pg_name (i := 3) sc_law.nd rfl (Or.inl rfl)) pgs_nil))))
      (pss_cons (ps_set (i := 4) sc_law.nd rfl (Or.inl rfl) (pe_op on_addZ (pe_callTy cn_str (by rfl) T.m_str (by decide +kernel) (pa_cons (pv 2) pa_nil)) (pn_join pe_str (pe_lc (own := [("_law_a", 10), ("_law_b", 11)]) (g := (gTup _ 2 (gCons (gName 10) (gCons (gName 11) gNil)))) (tt := tYes) (by rfl) sc_law.nd (pi_list (pv 3)) (blkOk_by (own := [("_law_a", 10), ("_law_b", 11)]) (N := ["_law_script", "_law_at", "_law_n", "_law_ties", "_law_due", "_law_handed", "_law_turn", "_law_text", "_law_told", "_law_other", "_law_a", "_law_b"]) (sc := defScope s_law) (by decide +kernel)) (fun _ _ _ _ _ => (pg_tup rfl (pgs_cons (pg_name (i := 10) sc_law.nd rfl (Or.inl rfl)) (pgs_cons (pg_name (i := 11) sc_law.nd rfl (Or.inl rfl)) pgs_nil)))) (fun _ _ _ _ _ => pts_nil) (fun _ _ _ _ _ => (pe_op on_addZ (pe_op on_addZ (pe_op on_addZ pe_str (pe_callTy cn_str (by rfl) T.m_str (by decide +kernel) (pa_cons (pv 10) pa_nil))) pe_str) (pe_callTy cn_str (by rfl) T.m_str (by decide +kernel) (pa_cons (pv 11) pa_nil))))))))
      (pss_cons (ps_set (i := 5) sc_law.nd rfl (Or.inl rfl) (pe_tup (pa_cons (pv 2) (pa_cons (pe_callTy cn_list (by rfl) T.m_list (by decide +kernel) (pa_cons (pv 3) pa_nil)) pa_nil))))
      (pss_one (ps_for PassesOwn.never rfl (pi_range1 (by rfl) T.m_range (pa_cons pe_int pa_nil)) (pg_name (i := 6) sc_law.nd rfl (Or.inl rfl))
        (pss_cons (ps_set (i := 7) sc_law.nd rfl (Or.inl rfl) (pe_callF O_show_web (hr.mono (by decide)) (by rfl) pass0 (pa_cons (pv 5) pa_nil)))
      (pss_cons (ps_set (i := 8) sc_law.nd rfl (Or.inl rfl) (pe_callF O_read_web (hr.mono (by decide)) (by rfl) pass0 (pa_cons (pv 4) pa_nil)))
      (pss_cons (ps_if (PW.pt (pw_or (pt_not (pt_val (pe_callB call_isi (by rfl) T.m_isinstance (by decide +kernel) (pa_cons (pv 7) (pa_cons (pe_bltn (v := .ty "str") (by rfl) T.m_str (by decide +kernel) rfl) pa_nil))))) (pw_or (pt_cmpR op_ne (pv 7) (pv 4) (nomark _)) (pw_or (pt_not (pt_val (pe_callF O__law_same (hr.mono (by decide)) (by rfl) pass0 (pa_cons (pv 8) (pa_cons (pv 2) (pa_cons (pv 3) pa_nil)))))) (pw_or1 (pt_cmpR (op_neD hr.units) (pv 5) (pe_tup (pa_cons (pv 2) (pa_cons (pv 3) pa_nil))) (nomark _))))))) (pss_one (ps_ret pe_bl)) pss_nil)
      (pss_cons (ps_set (i := 9) sc_law.nd rfl (Or.inl rfl) (pe_callF O_read_web (hr.mono (by decide)) (by rfl) pass0 (pa_cons (pv 4) pa_nil)))
      (pss_cons (ps_expr (pe_bm PySem.F.plainAttrs_list PySem.F.slot_list_append PySem.F.type_list_append mt_append (pe_ix ix_tup (pv 9) pe_int (fun _ _ => rfl)) (pa_cons (pe_tup (pa_cons pe_int (pa_cons pe_int pa_nil))) pa_nil)))
      (pss_cons (ps_if (PW.pt (pw_or (pt_cmpR (op_neD hr.units) (pe_callF O_read_web (hr.mono (by decide)) (by rfl) pass0 (pa_cons pe_str pa_nil)) (pe_tup (pa_cons pe_int (pa_cons (pe_lst (pa_cons (pe_tup (pa_cons pe_int (pa_cons pe_int pa_nil))) pa_nil)) pa_nil))) (nomark _)) (pw_or1 (pt_cmpR (op_neD hr.units) (pv 8) (pe_tup (pa_cons (pv 2) (pa_cons (pv 3) pa_nil))) (nomark _))))) (pss_one (ps_ret pe_bl)) pss_nil)
      (pss_one (ps_expr (pe_bm PySem.F.plainAttrs_list PySem.F.slot_list_append PySem.F.type_list_append mt_append (pe_ix ix_tup (pv 8) pe_int (fun _ _ => rfl)) (pa_cons (pe_tup (pa_cons pe_int (pa_cons pe_int pa_nil))) pa_nil))))))))))))))))
      (pss_one (ps_ret pe_bl))), ?_⟩
    obtain ⟨a, ns, rfl, hl, hS, q⟩ := h
    try dsimp only [cxOf, Cx.nox, Cx.wish]
    refine start_as (σ := [some _, none, none, none, none, none, none, none, none, none, none, none]) rfl ?_
    walk_at "go"
    refine i_rng1D (by omega) (by omega) ?_
    refine f_R (fun i σ' H' => Ext H H' ∧ ∃ u1 u2 u3 u4 u5 u6 u7 u8 u9, σ' = [some (.ref a), u1, u2, u3, u4, u5, u6, u7, u8, u9, none, none]) ⟨Ext.refl H, _, _, _, _, _, _, _, _, _, rfl⟩ ?_ ?_
    · rintro i σ' H' hi ⟨e0, u1, u2, u3, u4, u5, u6, u7, u8, u9, rfl⟩
      walk_at "go"
      refine ⟨a, ns, 0 + (i : Int), rfl, sql_ext e0 hS, by omega, fun H1 pl hpl e1 hP1 => ?_⟩
      walk_at "go"
      have hM1 : Dom [pl] H1 := Dom.nil.cons hP1.some
      refine ⟨pl, 1, 40, [pl], rfl, by omega, by omega, by omega, by omega, hP1, List.mem_singleton.mpr rfl, hM1, fun H2 w n ts b2 hP2 hM2 hn1 hn7 hts ok hw => ?_⟩
      have e2 := ext_but e1 hpl b2
      refine g_tup2 hw fun v1 v2 d1 d2 => ?_
      cases dp_int d1
      walk_at "go"
      refine w_strN (by omega) ?_
      walk_at "go"
      refine i_listD d2 fun b xs eb hL hA => ?_
      refine lm_L (K := K) (M := [pl]) ts dTie (fun t => " " ++ nz t.1 ++ "-" ++ nz t.2) PyData.str (by omega) hM2 hL hA (fun D i t x2 H3 hi e3 dm hD hx Ky k1 => ?_) (fun D H3 e3 hM3 hD h3 => ?_)
      · have ot := ok t (List.mem_of_getElem? hi)
        have la := nz_le (n := t.1) (by omega)
        have lb := nz_le (n := t.2) (by omega)
        refine g_tup2 hx fun v3 v4 d3 d4 => ?_
        cases dp_int d3
        cases dp_int d4
        refine ⟨rfl, ?_⟩
        walk_at "go"
        refine w_strN (by omega) ?_
        walk_at "go"
        refine w_addZ (by rw [one_blank]; omega) ?_
        walk_at "go"
        refine w_addZ (by rw [len_app, one_blank, one_dash]; omega) ?_
        walk_at "go"
        refine w_strN (by omega) ?_
        walk_at "go"
        refine w_addZ (by rw [len_app, len_app, one_blank, one_dash]; omega) ?_
        exact k1 _ _ (Ext.refl _) (.str _)
      · walk_at "go"
        refine w_join _ h3.dp (by rw [List.length_map]; have := due_sum hn7 ok; have : ("" : Str).length = 0 := rfl; rw [this]; omega) ?_
        refine w_addZ (by have := due_len hn7 hts ok; omega) ?_
        rw [due_eq]
        have d3 := dpx e3 d2
        walk_at "go"
        refine w_listL hM3 d3 fun ld H4 e4 hM4 _ h4 => ?_
        have h4 := h4.dp
        walk_at "go"
        rename_i hd5 H5 e5 hM5 h5
        have d5 : Dp K (vis [pl] H5) v2 (.list (ts.map dTie)) := dpx e5 (dpx e4 d3)
        refine i_rng1D (by omega) (by omega) ?_
        refine f_R (fun j σ' H' => Ext H5 H' ∧ Dom [pl] H' ∧ ∃ u6 u7 u8 u9, σ' = [some (.ref a), some (.int (0 + (i : Int))), some (.int n), some v2, some (.str (lineOf n ts)), some (.ref hd5), u6, u7, u8, u9, none, none]) ⟨Ext.refl _, hM5, _, _, _, _, rfl⟩ ?_ ?_
        · rintro j σ' H6 hj ⟨e6, hM6, u6, u7, u8, u9, rfl⟩
          walk_at "go"
          refine ⟨.ref hd5, n, ts, [pl], rfl, dpx e6 h5, hn7, hts, ok, hM6, fun H7 e7 hM7 => ?_⟩
          walk_at "go"
          refine ⟨n, ts, [pl], rfl, by omega, hn7, hts, ok, hM7, fun p1 l1 H8 e8 hM8 hp1 hl1 hp18 hl18 => ?_⟩
          have ht8 : Dp K (vis [pl] H8) (.ref p1) (dWeb n ts) := .tup (.inl (.inl (by rw [vis_out (hM7.new hp1)]; exact hp18))) (.cons (.int n) (.cons hl18.dp .nil))
          walk_at "go"
          refine w_noN rfl ?_
          walk_at "go"
          refine ⟨.ref p1, v2, n, ts, [pl], rfl, ht8, dpx e8 (dpx e7 (dpx e6 d5)), hts, hM8, fun H9 e9 => ?_⟩
          have hM9 := hM8.ext e9
          have d9 := dpx e9 (dpx e8 (dpx e7 (dpx e6 d5)))
          have h59 := dpx e9 (dpx e8 (dpx e7 (dpx e6 h5)))
          walk_at "go"
          rename_i p10 H10 e10 hM10 h10
          refine w_neSame (d := dWeb n ts) (dpx e10 h59) h10 (shp_web n ts) (by decide) ?_
          walk_at "go"
          refine ⟨n, ts, [pl], rfl, by omega, hn7, hts, ok, hM10, fun p2 l2 H11 e11 hM11 hp2 hl2 hp211 hl211 => ?_⟩
          walk_at "go"
          refine w_ixTR hp211 rfl ?_
          obtain ⟨_, acc, ha, hac⟩ := hl211
          refine ⟨ty_lst ha, ?_⟩
          walk_at "go"
          rename_i p12 H12 e12 hM12 h12
          have la : acc.length ≤ 40 := by rw [dpAll_len hac, List.length_map]; exact hts
          refine w_appB (e12 _ _ ha) (by omega) fun H13 b13 hl13 => ?_
          have e613 : Ext H6 H13 := ext_but (e7.trans (e8.trans (e9.trans (e10.trans (e11.trans e12))))) (fresh_back (e7.trans (e8.trans (e9.trans e10))) hl2) b13
          have e713 : Ext H7 H13 := ext_but (e8.trans (e9.trans (e10.trans (e11.trans e12)))) (fresh_back (e8.trans (e9.trans e10)) hl2) b13
          have e813 : Ext H8 H13 := ext_but (e9.trans (e10.trans (e11.trans e12))) (fresh_back (e9.trans e10) hl2) b13
          have hM13 : Dom [pl] H13 := hM8.ext e813
          have ht13 := dpx e813 ht8
          have d13 := dpx e613 (dpx e6 d5)
          walk_at "go"
          rw [two_line]
          refine ⟨2, [(0, 1)], [pl], rfl, by decide, by decide, by decide, ok_two, hM13, fun p3 l3 H14 e14 hM14 hp3 hl3 hp314 hl314 => ?_⟩
          have ht14 : Dp K (vis [pl] H14) (.ref p3) (dWeb 2 [(0, 1)]) := .tup (.inl (.inl (by rw [vis_out (hM13.new hp3)]; exact hp314))) (.cons (.int _) (.cons hl314.dp .nil))
          walk_at "go"
          rename_i p15 H15 e15 hM15 h15 p16 H16 e16 hM16 h16 p17 H17 e17 hM17 h17
          refine w_neSame (d := dWeb 2 [(0, 1)]) (dpx e17 (dpx e16 (dpx e15 ht14))) h17 (shp_web _ _) (by decide) ?_
          have e1317 := e14.trans (e15.trans (e16.trans e17))
          have d17 := dpx e1317 d13
          walk_at "go"
          rename_i p18 H18 e18 hM18 h18
          refine w_neSame (d := dWeb n ts) (dpx (e1317.trans e18) ht13) h18 (shp_web n ts) (by decide) ?_
          have e818 := e813.trans (e1317.trans e18)
          walk_at "go"
          refine w_ixTR (e818 _ _ hp18) rfl ?_
          obtain ⟨_, acc1, ha1, hac1⟩ := hl18
          have la1 : acc1.length ≤ 40 := by rw [dpAll_len hac1, List.length_map]; exact hts
          refine ⟨ty_lst (e818 _ _ ha1), ?_⟩
          walk_at "go"
          rename_i p19 H19 e19 hM19 h19
          refine w_appB (e19 _ _ (e818 _ _ ha1)) (by omega) fun H20 b20 hl20 => ?_
          have e620 : Ext H6 H20 := ext_but (e613.trans (e1317.trans (e18.trans e19))) (fresh_back e7 hl1) b20
          walk_at "go"
          exact ⟨e6.trans e620, hM6.ext e620, _, _, _, _, rfl⟩
        · rintro σ' H6 ⟨e6, hM6, u6, u7, u8, u9, rfl⟩
          refine ⟨e0.trans (e2.trans (e3.trans (e4.trans (e5.trans e6)))), _, _, _, _, _, _, _, _, _, rfl⟩
    · rintro σ' H' ⟨e0, u1, u2, u3, u4, u5, u6, u7, u8, u9, rfl⟩
      walk_at "go"
      exact q _
def dfn (x : Str) (i : Nat) : He.DefD := ⟨(x, none), x, x, defArgs (topS i), defBody (topS i), defScope (topS i), [], []⟩
def fn : List He.DefD := [dfn "_law_pile" 17, dfn "_law_mixed" 16, dfn "_law_take" 18, dfn "_law_tie" 19, dfn "_law_web" 20, dfn "number_in" 9, dfn "pair_in" 10, dfn "show_pair" 12, dfn "show_web" 13, dfn "is_tie" 5, dfn "look_at_web" 6, dfn "tie_in" 11, dfn "read_web" 14, dfn "_law_whole" 21, dfn "_law_same" 22, dfn "law" 23]
def fa : List He.Fa := [.str "FIGURES" "0123456789", .free "abs", .free "any", .free "bool", .free "enumerate", .free "int", .free "isinstance", .free "len", .free "list", .free "max", .free "min", .free "range", .free "str", .free "tuple", .glo "_law_pile", .glo "_law_mixed", .glo "_law_take", .glo "_law_tie", .glo "_law_web", .glo "number_in", .glo "pair_in", .glo "show_pair", .glo "show_web", .glo "is_tie", .glo "look_at_web", .glo "tie_in", .glo "read_web", .glo "_law_whole", .glo "_law_same", .glo "law"]
theorem txt_of {K : PySem.W.Frag} {h : Heap} {mg : Str → Option Value} (X : K.In h) (G : h.Ns mainGlobals mg) (c : He.SaysD fa fn K) : Txt K mg where
  c_FIGURES := He.str_ok X G (c.fact 0 (f := .str "FIGURES" "0123456789") rfl)
  m_abs := He.free_ok X G (c.fact 1 (f := .free "abs") rfl)
  m_any := He.free_ok X G (c.fact 2 (f := .free "any") rfl)
  m_bool := He.free_ok X G (c.fact 3 (f := .free "bool") rfl)
  m_enumerate := He.free_ok X G (c.fact 4 (f := .free "enumerate") rfl)
  m_int := He.free_ok X G (c.fact 5 (f := .free "int") rfl)
  m_isinstance := He.free_ok X G (c.fact 6 (f := .free "isinstance") rfl)
  m_len := He.free_ok X G (c.fact 7 (f := .free "len") rfl)
  m_list := He.free_ok X G (c.fact 8 (f := .free "list") rfl)
  m_max := He.free_ok X G (c.fact 9 (f := .free "max") rfl)
  m_min := He.free_ok X G (c.fact 10 (f := .free "min") rfl)
  m_range := He.free_ok X G (c.fact 11 (f := .free "range") rfl)
  m_str := He.free_ok X G (c.fact 12 (f := .free "str") rfl)
  m_tuple := He.free_ok X G (c.fact 13 (f := .free "tuple") rfl)
  f__law_pile := ⟨c.def_ 0 (d := dfn "_law_pile" 17) rfl, He.glo_ok X G (c.fact 14 (f := .glo "_law_pile") rfl)⟩
  f__law_mixed := ⟨c.def_ 1 (d := dfn "_law_mixed" 16) rfl, He.glo_ok X G (c.fact 15 (f := .glo "_law_mixed") rfl)⟩
  f__law_take := ⟨c.def_ 2 (d := dfn "_law_take" 18) rfl, He.glo_ok X G (c.fact 16 (f := .glo "_law_take") rfl)⟩
  f__law_tie := ⟨c.def_ 3 (d := dfn "_law_tie" 19) rfl, He.glo_ok X G (c.fact 17 (f := .glo "_law_tie") rfl)⟩
  f__law_web := ⟨c.def_ 4 (d := dfn "_law_web" 20) rfl, He.glo_ok X G (c.fact 18 (f := .glo "_law_web") rfl)⟩
  f_number_in := ⟨c.def_ 5 (d := dfn "number_in" 9) rfl, He.glo_ok X G (c.fact 19 (f := .glo "number_in") rfl)⟩
  f_pair_in := ⟨c.def_ 6 (d := dfn "pair_in" 10) rfl, He.glo_ok X G (c.fact 20 (f := .glo "pair_in") rfl)⟩
  f_show_pair := ⟨c.def_ 7 (d := dfn "show_pair" 12) rfl, He.glo_ok X G (c.fact 21 (f := .glo "show_pair") rfl)⟩
  f_show_web := ⟨c.def_ 8 (d := dfn "show_web" 13) rfl, He.glo_ok X G (c.fact 22 (f := .glo "show_web") rfl)⟩
  f_is_tie := ⟨c.def_ 9 (d := dfn "is_tie" 5) rfl, He.glo_ok X G (c.fact 23 (f := .glo "is_tie") rfl)⟩
  f_look_at_web := ⟨c.def_ 10 (d := dfn "look_at_web" 6) rfl, He.glo_ok X G (c.fact 24 (f := .glo "look_at_web") rfl)⟩
  f_tie_in := ⟨c.def_ 11 (d := dfn "tie_in" 11) rfl, He.glo_ok X G (c.fact 25 (f := .glo "tie_in") rfl)⟩
  f_read_web := ⟨c.def_ 12 (d := dfn "read_web" 14) rfl, He.glo_ok X G (c.fact 26 (f := .glo "read_web") rfl)⟩
  f__law_whole := ⟨c.def_ 13 (d := dfn "_law_whole" 21) rfl, He.glo_ok X G (c.fact 27 (f := .glo "_law_whole") rfl)⟩
  f__law_same := ⟨c.def_ 14 (d := dfn "_law_same" 22) rfl, He.glo_ok X G (c.fact 28 (f := .glo "_law_same") rfl)⟩
  f_law := ⟨c.def_ 15 (d := dfn "law" 23) rfl, He.glo_ok X G (c.fact 29 (f := .glo "law") rfl)⟩
abbrev R : PySem.W.OpenRow := PySem.W.OpenLaw.row PySem.Challenge.rw_holdfast_k70_webs_as_texts
abbrev hk : PySem.W.Hook := He.hookD 4 fa fn
def ob (s : PySem.W.SharedT) : He.AlD := He.obsDG 4 fa fn (HandSHeadRun.getT s)
theorem ob_eq (s : PySem.W.SharedT) : ob s = hk.obs s.abs := He.obsDG_eq (HandSHeadRun.getT_eq s)
def loose0 : List Str := ["HoldError", "NoWeb", "NoText", "is_tie", "look_at_web", "FIGURES", "number_in", "pair_in", "tie_in", "show_pair", "show_web", "read_web", "_law_mixed", "_law_pile", "_law_take", "_law_tie", "_law_web", "_law_whole", "_law_same"]
def loose : List Str := loose0
set_option maxHeartbeats 0 in
theorem run (w : World) : HandSHeadRun.RunEq R (PySem.W.view R.prog [23]) hk ob 5200 loose w := by
  intro os
  kernel_rfl
theorem all_ok {P : Program} {w : World} {K : PySem.W.Frag} {mg : Str → Option Value} {base : Heap} (T : Txt K mg) : OkF P w K mg base CX0 5 "law" ["_law_script"] (sp_law K) := by
  have O__law_pile := ok__law_pile (P := P) (w := w) (K := K) (mg := mg) (base := base) T 
  have O__law_mixed := ok__law_mixed (P := P) (w := w) (K := K) (mg := mg) (base := base) T 
  have O__law_take := ok__law_take (P := P) (w := w) (K := K) (mg := mg) (base := base) T O__law_mixed
  have O__law_tie := ok__law_tie (P := P) (w := w) (K := K) (mg := mg) (base := base) T O__law_take
  have O__law_web := ok__law_web (P := P) (w := w) (K := K) (mg := mg) (base := base) T O__law_take O__law_tie
  have O_number_in := ok_number_in (P := P) (w := w) (K := K) (mg := mg) (base := base) T 
  have O_pair_in := ok_pair_in (P := P) (w := w) (K := K) (mg := mg) (base := base) T O_number_in
  have O_show_pair := ok_show_pair (P := P) (w := w) (K := K) (mg := mg) (base := base) T 
  have O_show_web := ok_show_web (P := P) (w := w) (K := K) (mg := mg) (base := base) T O_show_pair
  have O_is_tie := ok_is_tie (P := P) (w := w) (K := K) (mg := mg) (base := base) T 
  have O_look_at_web := ok_look_at_web (P := P) (w := w) (K := K) (mg := mg) (base := base) T O_is_tie
  have O_tie_in := ok_tie_in (P := P) (w := w) (K := K) (mg := mg) (base := base) T O_pair_in
  have O_read_web := ok_read_web (P := P) (w := w) (K := K) (mg := mg) (base := base) T O_number_in O_tie_in O_look_at_web
  have O__law_whole := ok__law_whole (P := P) (w := w) (K := K) (mg := mg) (base := base) T 
  have O__law_same := ok__law_same (P := P) (w := w) (K := K) (mg := mg) (base := base) T O__law_whole
  have O_law := ok_law (P := P) (w := w) (K := K) (mg := mg) (base := base) T O__law_web O__law_pile O_show_web O_read_web O__law_same
  exact O_law
end L70
open PySem PySem.W PySem.Calls PyProof.Rows
set_option maxHeartbeats 0 in
theorem PySem.Challenge.cw_holdfast_k70_webs_as_texts_holds : PySem.Challenge.rw_holdfast_k70_webs_as_texts.Holds := by
  w_on; o_law
  refine HandSHeadRun.head_any (r := OpenLaw.row PySem.Challenge.rw_holdfast_k70_webs_as_texts) (q := view (OpenLaw.row PySem.Challenge.rw_holdfast_k70_webs_as_texts).prog [23]) (H := L70.hk) (ob := L70.ob) (M := 5200) (loose := L70.loose) (d := HandSHeadRun.topDef (OpenLaw.row PySem.Challenge.rw_holdfast_k70_webs_as_texts).prog 23) (kwd := []) L70.ob_eq
    (by kernel_rfl) (fun s => by kernel_rfl) L70.run (by kernel_rfl) (by kernel_rfl) (by kernel_rfl) (by rfl) (by first | assumption | decide +kernel) (by decide +kernel) ⟨rfl, rfl, rfl, rfl, rfl, by decide +kernel⟩ ?hw ?hc
  case hw => w_witness2
  case hc =>
    refine L2.walk_ofE (l := PySem.Challenge.rw_holdfast_k70_webs_as_texts) (n := 63) (k := 5) (x := "_law_script") (CX := L2.CX0) rfl (by decide) (by kernel_rfl) ⟨rfl, by decide, by decide⟩ ?F (fun _ _ _ _ z => z)
    intro w mg fa h Y G hmg0
    obtain ⟨K, KX, c⟩ := Y
    have hmg : mg ("law" : PySem.Str) = some (.ref fa) := by
      have e : (HandSHeadRun.topDef (OpenLaw.row PySem.Challenge.rw_holdfast_k70_webs_as_texts).prog 23).name = ("law" : PySem.Str) := by kernel_rfl
      rw [← e]
      exact hmg0
    have T := L70.txt_of KX G c
    have e := hmg.symm.trans T.f_law.gl
    cases e
    exact Hf.law_end KX G (fun base => L70.all_ok T) (fun H a ns hl hS => L70.law_in H a ns hl hS)
