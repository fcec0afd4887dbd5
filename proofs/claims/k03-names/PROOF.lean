import PyProof.Rows.All
import Wide.All
import OpenK.AllK
import Wide.FinOn
import HandS.ForMost
import HandS.Evl
import HandS.IsInst
import HandS.TupAny
import HandS.Walk
import HandS.Steps
import HandS.Flow
import HandS.ForExc
import HandS.Style
import HandS.TupMul
import HandS.SetFor
import HandS.SetTxt0
import HandS.Strs
import PyProof.Rows.SortShellAny
import PySem.Challenge.RW_leancells_k03_names
set_option Elab.async false
set_option linter.all false
set_option maxRecDepth 100000
set_option maxHeartbeats 4000000
namespace Y
open PySem L2 Evl

/-! ## data that stand in the heap -/
mutual
theorem dpx {K : PySem.W.Frag} {H H' : Hp} (e : Ex H H') : ∀ (d : PyData) (v : V), Dp K H v d → Dp K H' v d
  | _, _, .non => .non
  | _, _, .bl b => .bl b
  | _, _, .int i => .int i
  | _, _, .str x => .str x
  | _, _, .lst h hs => .lst (ex_l e h) (dpxA e _ _ hs)
  | _, _, .tup h hs => .tup (ex_t e h) (dpxA e _ _ hs)
theorem dpxA {K : PySem.W.Frag} {H H' : Hp} (e : Ex H H') : ∀ (ds : List PyData) (vs : List V), DpAll K H vs ds → DpAll K H' vs ds
  | _, _, .nil => .nil
  | _, _, .cons h hs => .cons (dpx e _ _ h) (dpxA e _ _ hs)
end
section
variable {K : PySem.W.Frag} {H H' H1 : Hp} {v : V} {d : PyData} {vs ws : List V} {ds es : List PyData}
theorem dp_len : DpAll K H vs ds → vs.length = ds.length := fun h => by
  induction ds generalizing vs with
  | nil => cases h; rfl
  | cons d ds ih =>
    cases h with
    | cons _ h => exact congrArg (· + 1) (ih h)
theorem dp_app : ∀ {vs : List V} {ds : List PyData}, DpAll K H vs ds → DpAll K H ws es → DpAll K H (vs ++ ws) (ds ++ es)
  | _, _, .nil, b => b
  | _, _, .cons a r, b => .cons a (dp_app r b)
theorem dp_drop : ∀ (n : Nat) {vs : List V} {ds : List PyData}, DpAll K H vs ds → DpAll K H (vs.drop n) (ds.drop n)
  | 0, _, _, h => h
  | _ + 1, _, _, .nil => .nil
  | n + 1, _, _, .cons _ r => dp_drop n r
theorem dp_take : ∀ (n : Nat) {vs : List V} {ds : List PyData}, DpAll K H vs ds → DpAll K H (vs.take n) (ds.take n)
  | 0, _, _, _ => .nil
  | _ + 1, _, _, .nil => .nil
  | n + 1, _, _, .cons a r => .cons a (dp_take n r)
theorem dp_at : ∀ {vs : List V} {ds : List PyData} {i : Nat} {d : PyData}, DpAll K H vs ds → ds[i]? = some d → ∃ v, vs[i]? = some v ∧ Dp K H v d
  | _, _, 0, _, .cons a _, e => ⟨_, rfl, by simp at e; subst e; exact a⟩
  | _, _, i + 1, _, .cons _ r, e => by
    obtain ⟨v, h1, h2⟩ := dp_at (i := i) r (by simpa using e)
    exact ⟨v, by simpa using h1, h2⟩
  | _, _, _, _, .nil, e => by simp at e
theorem dp_at' : ∀ {vs : List V} {ds : List PyData} {i : Nat} {v : V}, DpAll K H vs ds → vs[i]? = some v → ∃ d, ds[i]? = some d ∧ Dp K H v d
  | _, _, 0, _, .cons a _, e => ⟨_, rfl, by simp at e; subst e; exact a⟩
  | _, _, i + 1, _, .cons _ r, e => by
    obtain ⟨v, h1, h2⟩ := dp_at' (i := i) r (by simpa using e)
    exact ⟨v, by simpa using h1, h2⟩
  | _, _, _, _, .nil, e => by simp at e

/-! ## the kinds of data -/
def kindOf : PyData → String
  | .none => "NoneType" | .bool _ => "bool" | .int _ => "int" | .str _ => "str" | .list _ => "list" | .tuple _ => "tuple" | .dict _ => "dict"
theorem tyx_of (h : Dp K H v d) : TyX K H v (.type (kindOf d)) := by
  cases h with
  | non => exact .base .non
  | bl b => exact .base (.bl b)
  | int i => exact .base (.int i)
  | str x => exact .base (.str x)
  | lst h _ =>
    rcases h with (h | ⟨o, h⟩) | ⟨o, its, n, h, hc, _⟩
    · exact .base (.lst h)
    · exact .base (.frz h)
    · exact .kList h hc
  | tup h _ =>
    rcases h with (h | ⟨o, h⟩) | ⟨o, its, n, h, hc, _⟩
    · exact .base (.tup h)
    · exact .fTuple h
    · exact .kTuple h hc

/-! ## what an expression comes to -/
def EvD (K : PySem.W.Frag) (te : TE) (σ : L2.St) (H : Hp) (d : PyData) : Prop := ∀ H1, Ex H H1 → ∀ Q : VK, (∀ v H2, Ex H1 H2 → Dp K H2 v d → Q v H2) → te σ H1 Q
def EvDs (K : PySem.W.Frag) (ta : TA) (σ : L2.St) (H : Hp) (ds : List PyData) : Prop := ∀ H1, Ex H H1 → ∀ Q : List V → Hp → Prop, (∀ vs H2, Ex H1 H2 → DpAll K H2 vs ds → Q vs H2) → ta σ H1 Q
def RetD (K : PySem.W.Frag) (d : PyData) (H : Hp) (Q : VK) : Prop := ∀ v H2, Ex H H2 → Dp K H2 v d → Q v H2
variable {σ : L2.St} {te ta tb tc : TE} {tq : TA} {t u : TT} {x y z : PyData} {i j : Int} {s r : Str} {b c : Bool} {n : Nat} {D : Ends}
theorem EvD.up (e : Ex H H') (h : EvD K te σ H d) : EvD K te σ H' d := fun H1 a Q q => h H1 (e.trans a) Q q
theorem EvDs.up (e : Ex H H') (h : EvDs K tq σ H ds) : EvDs K tq σ H' ds := fun H1 a Q q => h H1 (e.trans a) Q q
theorem EvD.is (h : EvD K te σ H d) (e : d = y) : EvD K te σ H y := e ▸ h
theorem RetD.is' {Q : VK} (h : RetD K d H Q) (q : d = y) : RetD K y H Q := q ▸ h
theorem RetD.up (e : Ex H H') {Q : VK} (h : RetD K d H Q) : RetD K d H' Q := fun v H2 a p => h v H2 (e.trans a) p
theorem d_var {k : Nat} (h : σ[k]? = some (some v)) (p : Dp K H v d) : EvD K (tVar k) σ H d := fun H1 e Q q => ⟨v, h, q v H1 (Ex.refl H1) (dpx e _ _ p)⟩
theorem d_c (p : ∀ H, Dp K H v d) : EvD K (tC v) σ H d := fun H1 _ Q q => q v H1 (Ex.refl H1) (p H1)
theorem d_int : EvD K (tC (.int i)) σ H (.int i) := d_c fun _ => .int i
theorem d_bl : EvD K (tC (.bl b)) σ H (.bool b) := d_c fun _ => .bl b
theorem d_str : EvD K (tC (.str s)) σ H (.str s) := d_c fun _ => .str s
theorem d_non : EvD K (tC .non) σ H .none := d_c fun _ => .non
theorem ds_nil : EvDs K tNil σ H [] := fun H1 _ Q q => q [] H1 (Ex.refl H1) .nil
theorem ds_cons (h : EvD K te σ H d) (hs : EvDs K tq σ H ds) : EvDs K (tCons te tq) σ H (d :: ds) := fun H1 e Q q =>
  h H1 e _ fun v H2 e2 p => hs H2 (e.trans e2) _ fun vs H3 e3 ps => q (v :: vs) H3 (e2.trans e3) (.cons (dpx e3 _ _ p) ps)
theorem d_tup (h : EvDs K tq σ H ds) (hl : ds.length ≤ 100000) : EvD K (tTup tq) σ H (.tuple ds) := fun H1 e Q q =>
  h H1 e _ fun vs H2 e2 ps => ⟨sz_of (by rw [dp_len ps]; exact hl), fun p hp => q _ _ (e2.trans (Ex.new hp)) (.tup (st_of upd_same) (dpxA (Ex.new hp) _ _ ps))⟩
theorem d_lst (h : EvDs K tq σ H ds) (hl : ds.length ≤ 100000) : EvD K (tLst tq) σ H (.list ds) := fun H1 e Q q =>
  h H1 e _ fun vs H2 e2 ps => ⟨sz_of (by rw [dp_len ps]; exact hl), fun p hp => q _ _ (e2.trans (Ex.new hp)) (.lst (sq_of upd_same) (dpxA (Ex.new hp) _ _ ps))⟩
/-- two operands -/
theorem d_op {r : R2} (ha : EvD K ta σ H x) (hb : EvD K tb σ H y) (hr : ∀ v w H1, Ex H H1 → Dp K H1 v x → Dp K H1 w y → ∀ Q : VK, (∀ v H2, Ex H1 H2 → Dp K H2 v z → Q v H2) → r v w H1 Q) : EvD K (tOp r ta tb) σ H z := fun H1 e Q q =>
  ha H1 e _ fun v H2 e2 p => hb H2 (e.trans e2) _ fun w H3 e3 p' => hr v w H3 ((e.trans e2).trans e3) (dpx e3 _ _ p) p' Q fun v H4 e4 p4 => q v H4 ((e2.trans e3).trans e4) p4
theorem d_I0 {g : Int → Int → V} (ha : EvD K ta σ H (.int i)) (hb : EvD K tb σ H (.int j)) (hz : ∀ H, Dp K H (g i j) z) : EvD K (tOp (rI0 g) ta tb) σ H z :=
  d_op ha hb fun v w H1 _ p p' Q q => by cases p; cases p'; exact ⟨i, j, rfl, rfl, q _ H1 (Ex.refl H1) (hz H1)⟩
theorem d_I {C : Int → Int → Prop} {g : Int → Int → V} (ha : EvD K ta σ H (.int i)) (hb : EvD K tb σ H (.int j)) (hC : C i j) (hz : ∀ H, Dp K H (g i j) z) : EvD K (tOp (rI C g) ta tb) σ H z :=
  d_op ha hb fun v w H1 _ p p' Q q => by cases p; cases p'; exact ⟨i, j, rfl, rfl, hC, q _ H1 (Ex.refl H1) (hz H1)⟩
theorem d_eqS (ha : EvD K ta σ H (.str s)) (hb : EvD K tb σ H (.str r)) : EvD K (tOp rEq ta tb) σ H (.bool (decide (s = r))) :=
  d_op ha hb fun v w H1 _ p p' Q q => by
    cases p; cases p'
    refine ⟨rfl, q _ H1 (Ex.refl H1) ?_⟩
    have e : decide (V.str s = V.str r) = decide (s = r) := by
      by_cases h : s = r
      · subst h; simp
      · rw [decide_eq_false h, decide_eq_false (fun z => h (V.str.inj z))]
    rw [e]; exact .bl _
theorem d_neS (ha : EvD K ta σ H (.str s)) (hb : EvD K tb σ H (.str r)) : EvD K (tOp rNe ta tb) σ H (.bool (!decide (s = r))) :=
  d_op ha hb fun v w H1 _ p p' Q q => by
    cases p; cases p'
    refine ⟨rfl, q _ H1 (Ex.refl H1) ?_⟩
    have e : decide (V.str s = V.str r) = decide (s = r) := by
      by_cases h : s = r
      · subst h; simp
      · rw [decide_eq_false h, decide_eq_false (fun z => h (V.str.inj z))]
    rw [e]; exact .bl _
theorem d_eqI (ha : EvD K ta σ H (.int i)) (hb : EvD K tb σ H (.int j)) : EvD K (tOp rEq ta tb) σ H (.bool (decide (i = j))) :=
  d_op ha hb fun v w H1 _ p p' Q q => by
    cases p; cases p'
    refine ⟨rfl, q _ H1 (Ex.refl H1) ?_⟩
    have e : decide (V.int i = V.int j) = decide (i = j) := by
      by_cases h : i = j
      · subst h; simp
      · rw [decide_eq_false h, decide_eq_false (fun z => h (V.int.inj z))]
    rw [e]; exact .bl _
theorem d_neI (ha : EvD K ta σ H (.int i)) (hb : EvD K tb σ H (.int j)) : EvD K (tOp rNe ta tb) σ H (.bool (!decide (i = j))) :=
  d_op ha hb fun v w H1 _ p p' Q q => by
    cases p; cases p'
    refine ⟨rfl, q _ H1 (Ex.refl H1) ?_⟩
    have e : decide (V.int i = V.int j) = decide (i = j) := by
      by_cases h : i = j
      · subst h; simp
      · rw [decide_eq_false h, decide_eq_false (fun z => h (V.int.inj z))]
    rw [e]; exact .bl _
/-- == of any data -/
theorem d_eqD (ha : EvD K ta σ H x) (hb : EvD K tb σ H y) (sx : SeqAt.shaped x = true) (sy : SeqAt.shaped y = true) : EvD K (tOp (rEqD K) ta tb) σ H (.bool (PyData.eqv x y)) :=
  d_op ha hb fun v w H1 _ p p' Q q => ⟨x, y, p, p', sx, sy, q _ H1 (Ex.refl H1) (.bl _)⟩
theorem d_neD (ha : EvD K ta σ H x) (hb : EvD K tb σ H y) (sx : SeqAt.shaped x = true) (sy : SeqAt.shaped y = true) : EvD K (tOp (rNeD K) ta tb) σ H (.bool (!PyData.eqv x y)) :=
  d_op ha hb fun v w H1 _ p p' Q q => ⟨x, y, p, p', sx, sy, q _ H1 (Ex.refl H1) (.bl _)⟩
/-- isinstance(x, a built-in class) -/
theorem d_isi {cn : String} (ha : EvD K ta σ H x) (hk : kitB (kindOf x) cn = some b) : EvD K (tCB (rIsi K) (tCons ta (tCons (tC (.ty cn)) tNil))) σ H (.bool b) := fun H1 e Q q =>
  ha H1 e _ fun v H2 e2 p => ⟨v, .ty cn, _, _, b, rfl, .ty cn, tyx_of p, kit_ty hk, q _ H2 e2 (.bl b)⟩
/-- len -/
def rLen1 (K : PySem.W.Frag) : List V → Hp → VK → Prop := fun xs H Q => ∃ x n, xs = [x] ∧ LenV K x H n ∧ Q (.int n) H
theorem d_lenT (ha : EvD K ta σ H (.tuple ds)) : EvD K (tCB (rLen1 K) (tCons ta tNil)) σ H (.int (ds.length : Int)) := fun H1 e Q q =>
  ha H1 e _ fun v H2 e2 p => by
    cases p with
    | tup h hs => exact ⟨_, _, rfl, .inr ⟨_, h, rfl⟩, q _ H2 e2 (by rw [dp_len hs]; exact .int _)⟩
theorem d_lenL (ha : EvD K ta σ H (.list ds)) : EvD K (tCB (rLen1 K) (tCons ta tNil)) σ H (.int (ds.length : Int)) := fun H1 e Q q =>
  ha H1 e _ fun v H2 e2 p => by
    cases p with
    | lst h hs => exact ⟨_, _, rfl, .inl ⟨_, h, rfl⟩, q _ H2 e2 (by rw [dp_len hs]; exact .int _)⟩
theorem d_lenS (ha : EvD K ta σ H (.str s)) (hl : s.length ≤ 100000) : EvD K (tCB (rLen1 K) (tCons ta tNil)) σ H (.int (s.length : Int)) := fun H1 e Q q =>
  ha H1 e _ fun v H2 e2 p => by
    cases p
    exact ⟨_, _, rfl, ⟨sz_of hl, rfl⟩, q _ H2 e2 (.int _)⟩
/-- xs[i] -/
theorem dp_atI (hs : DpAll K H vs ds) (e : atI ds i = some d) : ∃ v, atI vs i = some v ∧ Dp K H v d := by
  unfold atI at e ⊢
  rw [dp_len hs]
  cases h : ixN ds.length i with
  | none => rw [h] at e; cases e
  | some k =>
    rw [h] at e
    exact dp_at (i := k) hs (by simpa using e)
theorem d_ixT (ha : EvD K ta σ H (.tuple ds)) (hb : EvD K tb σ H (.int i)) (e : atI ds i = some d) : EvD K (tOp (rIx K) ta tb) σ H d :=
  d_op ha hb fun v w H1 _ p p' Q q => by
    cases p' with
    | int =>
      cases p with
      | tup h hs =>
        obtain ⟨v, hv, pv⟩ := dp_atI hs e
        exact .inr (.inl ⟨_, _, i, v, rfl, rfl, h, hv, q v H1 (Ex.refl H1) pv⟩)
theorem d_ixL (ha : EvD K ta σ H (.list ds)) (hb : EvD K tb σ H (.int i)) (e : atI ds i = some d) : EvD K (tOp (rIx K) ta tb) σ H d :=
  d_op ha hb fun v w H1 _ p p' Q q => by
    cases p' with
    | int =>
      cases p with
      | lst h hs =>
        obtain ⟨v, hv, pv⟩ := dp_atI hs e
        exact .inl ⟨_, _, i, v, rfl, rfl, h, hv, q v H1 (Ex.refl H1) pv⟩
/-- t[lo:hi] of a tuple: any part -/
def cutD (ds : List PyData) (lo hi : Option Int) : List PyData := (ds.drop (HT.sIx ds.length 0 lo)).take (HT.sIx ds.length ds.length hi - HT.sIx ds.length 0 lo)
def EvO (K : PySem.W.Frag) (to : TO) (σ : L2.St) (H : Hp) (o : Option Int) : Prop := ∀ H1, Ex H H1 → ∀ Q : Option Int → Hp → Prop, (∀ H2, Ex H1 H2 → Q o H2) → to σ H1 Q
theorem o_none : EvO K tNoPart σ H none := fun H1 _ Q q => q H1 (Ex.refl H1)
theorem o_some (h : EvD K te σ H (.int i)) : EvO K (tPart te) σ H (some i) := fun H1 e Q q => h H1 e _ fun v H2 e2 p => by cases p; exact ⟨i, rfl, q H2 e2⟩
theorem dp_cut (hs : DpAll K H vs ds) (lo hi : Option Int) : DpAll K H (cutV vs lo hi) (cutD ds lo hi) := by
  unfold cutV cutD
  rw [dp_len hs]
  exact dp_take _ (dp_drop _ hs)
theorem d_slT {tl th : TO} {lo hi : Option Int} (ha : EvD K ta σ H (.tuple ds)) (hl : EvO K tl σ H lo) (hh : EvO K th σ H hi) : EvD K (tSl (rSlA K) ta tl th) σ H (.tuple (cutD ds lo hi)) := fun H1 e Q q =>
  ha H1 e _ fun v H2 e2 p => hl H2 (e.trans e2) _ fun H3 e3 => hh H3 ((e.trans e2).trans e3) _ fun H4 e4 => by
    cases p with
    | @tup a xs _ h hs =>
      have hs' := dpxA (e3.trans e4) _ _ hs
      have h' := ex_t (e3.trans e4) h
      refine ⟨a, xs, rfl, h', fun hw => ?_, fun hw p hp => ?_⟩
      · refine q _ H4 ((e2.trans e3).trans e4) (.tup h' ?_)
        have ec : cutD ds lo hi = ds := by
          unfold cutD
          rw [dp_len hs] at hw
          rw [hw.1, hw.2]
          simp
        rw [ec]; exact hs'
      · exact q _ _ (((e2.trans e3).trans e4).trans (Ex.new hp)) (.tup (st_of upd_same) (dpxA (Ex.new hp) _ _ (dp_cut hs' lo hi)))
theorem d_slL {tl th : TO} {lo hi : Option Int} (ha : EvD K ta σ H (.list ds)) (hl : EvO K tl σ H lo) (hh : EvO K th σ H hi) : EvD K (tSl (rSlL K) ta tl th) σ H (.list (cutD ds lo hi)) := fun H1 e Q q =>
  ha H1 e _ fun v H2 e2 p => hl H2 (e.trans e2) _ fun H3 e3 => hh H3 ((e.trans e2).trans e3) _ fun H4 e4 => by
    cases p with
    | @lst a xs _ h hs =>
      have hs' := dpxA (e3.trans e4) _ _ hs
      have h' := ex_l (e3.trans e4) h
      exact ⟨a, xs, rfl, h', fun p hp => q _ _ (((e2.trans e3).trans e4).trans (Ex.new hp)) (.lst (sq_of upd_same) (dpxA (Ex.new hp) _ _ (dp_cut hs' lo hi)))⟩
/-- t + u, tuples -/
theorem d_catT (ha : EvD K ta σ H (.tuple ds)) (hb : EvD K tb σ H (.tuple es)) (hl : ds.length + es.length ≤ 100000) : EvD K (tOp (rCatA K) ta tb) σ H (.tuple (ds ++ es)) :=
  d_op ha hb fun v w H1 _ p p' Q q => by
    cases p with
    | @tup a xs _ h hs =>
      cases p' with
      | @tup a2 ys _ h2 hs2 =>
        refine ⟨a, a2, xs, ys, rfl, rfl, h, h2, sz_of (by rw [dp_len hs, dp_len hs2]; exact hl), fun hx => ?_, fun _ hy => ?_, fun _ _ p hp => ?_⟩
        · subst hx; cases hs; exact q _ H1 (Ex.refl H1) (.tup h2 hs2)
        · subst hy; cases hs2; exact q _ H1 (Ex.refl H1) (by rw [List.append_nil]; exact .tup h hs)
        · exact q _ _ (Ex.new hp) (.tup (st_of upd_same) (dpxA (Ex.new hp) _ _ (dp_app hs hs2)))

/-! ## tests -/
theorem d_tB (h : EvD K te σ H (.bool b)) : EvT (tB te) σ H b := fun H1 e Q q => h H1 e _ fun v H2 e2 p => by cases p; exact ⟨b, rfl, q H2 e2⟩
theorem d_tTest (h : EvD K te σ H (.bool b)) : EvT (tTest te) σ H b := fun H1 e Q q => h H1 e _ fun v H2 e2 p => by cases p; exact ⟨b, rfl, q H2 e2⟩
theorem d_not (h : EvD K te σ H (.bool b)) : EvD K (tNotV te) σ H (.bool (!b)) := fun H1 e Q q => h H1 e _ fun v H2 e2 p => by cases p; exact ⟨b, rfl, q _ H2 e2 (.bl _)⟩
theorem d_notF (h : EvD K te σ H (.bool false)) : EvD K (tNotV te) σ H (.bool true) := d_not h
theorem d_notT (h : EvD K te σ H (.bool true)) : EvD K (tNotV te) σ H (.bool false) := d_not h
theorem d_and (h1 : EvD K ta σ H (.bool b)) (h2 : b = true → EvD K tb σ H (.bool c)) : EvD K (tAndV ta tb) σ H (.bool (b && c)) := fun H1 e Q q => h1 H1 e _ fun v H2 e2 p => by
  cases p
  refine ⟨b, rfl, ?_⟩
  cases b with
  | true => exact h2 rfl H2 (e.trans e2) Q fun v H3 e3 p => q v H3 (e2.trans e3) p
  | false => exact q _ H2 e2 (.bl _)
theorem d_or (h1 : EvD K ta σ H (.bool b)) (h2 : b = false → EvD K tb σ H (.bool c)) : EvD K (tOrV ta tb) σ H (.bool (b || c)) := fun H1 e Q q => h1 H1 e _ fun v H2 e2 p => by
  cases p
  refine ⟨b, rfl, ?_⟩
  cases b with
  | false => exact h2 rfl H2 (e.trans e2) Q fun v H3 e3 p => q v H3 (e2.trans e3) p
  | true => exact q _ H2 e2 (.bl _)
/-- a and b whose first says no -/
theorem d_and0 (h1 : EvD K ta σ H (.bool false)) : EvD K (tAndV ta tb) σ H (.bool false) := d_and (c := false) h1 fun z => nomatch z
theorem d_and1 (h1 : EvD K ta σ H (.bool true)) (h2 : EvD K tb σ H (.bool c)) : EvD K (tAndV ta tb) σ H (.bool c) := (d_and h1 fun _ => h2).is (by simp)
theorem d_if (h : EvT t σ H b) (h1 : b = true → EvD K ta σ H d) (h2 : b = false → EvD K tb σ H d) : EvD K (tIf t ta tb) σ H d := fun H1 e Q q => h H1 e _ fun H2 e2 => by
  cases b with
  | true => exact h1 rfl H2 (e.trans e2) Q fun v H3 e3 p => q v H3 (e2.trans e3) p
  | false => exact h2 rfl H2 (e.trans e2) Q fun v H3 e3 p => q v H3 (e2.trans e3) p
/-- a < b < c of ints -/
theorem d_chain {p1 p2 : Int → Int → Bool} {k : Int} (ha : EvD K ta σ H (.int i)) (hb : EvD K tb σ H (.int j)) (hc : EvD K tc σ H (.int k)) :
    EvD K (tChain (rI0 fun i j => .bl (p1 i j)) (rI0 fun i j => .bl (p2 i j)) ta tb tc) σ H (.bool (p1 i j && p2 j k)) := fun H1 e Q q =>
  ha H1 e _ fun v H2 e2 p => hb H2 (e.trans e2) _ fun w H3 e3 p' => by
    cases p; cases p'
    refine ⟨i, j, rfl, rfl, p1 i j, rfl, ?_⟩
    cases h : p1 i j with
    | true => exact hc H3 ((e.trans e2).trans e3) _ fun w H4 e4 p4 => by cases p4; exact ⟨j, k, rfl, rfl, q _ H4 ((e2.trans e3).trans e4) (by rw [h, Bool.true_and]; exact .bl _)⟩
    | false => exact q _ H3 (e2.trans e3) (by rw [h, Bool.false_and]; exact .bl _)
theorem t_chain {p1 p2 : Int → Int → Bool} {k : Int} (ha : EvD K ta σ H (.int i)) (hb : EvD K tb σ H (.int j)) (hc : EvD K tc σ H (.int k)) :
    EvT (tTest (tChain (rI0 fun i j => .bl (p1 i j)) (rI0 fun i j => .bl (p2 i j)) ta tb tc)) σ H (p1 i j && p2 j k) := d_tTest (d_chain ha hb hc)
/-- the truth of a tuple, a list -/
theorem t_truT (h : EvD K te σ H (.tuple ds)) : EvT (fun σ H Q => te σ H fun x H' => ∃ k, TruV K x H' k ∧ Q k H') σ H (!ds.isEmpty) := fun H1 e Q q => h H1 e _ fun v H2 e2 p => by
  cases p with
  | @tup a xs _ h hs =>
    refine ⟨_, .inr (.inl ⟨xs, h, rfl⟩), ?_⟩
    have : xs.isEmpty = ds.isEmpty := by cases hs <;> rfl
    rw [this]; exact q H2 e2
theorem t_truL (h : EvD K te σ H (.list ds)) : EvT (fun σ H Q => te σ H fun x H' => ∃ k, TruV K x H' k ∧ Q k H') σ H (!ds.isEmpty) := fun H1 e Q q => h H1 e _ fun v H2 e2 p => by
  cases p with
  | @lst a xs _ h hs =>
    refine ⟨_, .inl ⟨xs, h, rfl⟩, ?_⟩
    have : xs.isEmpty = ds.isEmpty := by cases hs <;> rfl
    rw [this]; exact q H2 e2

/-! ## statements that end a def -/
theorem s_ret (h : EvD K te σ H d) (k : RetD K d H D.rt) : tRet te D σ H := h H (Ex.refl H) _ fun v H2 e p => k v H2 e p
theorem q_if {tu tz : TS} (h : EvT t σ H b) (h1 : b = true → ∀ H1, Ex H H1 → tu { D with nx := tz D } σ H1) (h2 : b = false → ∀ H1, Ex H H1 → tz D σ H1) : tSeq (tIfS t tu tNext) tz D σ H := Evl.q_when h h1 h2
end

/-! ## data without lists: what they are stays as long as tuples stay -/
mutual
def imm : PyData → Bool
  | .none => true | .bool _ => true | .int _ => true | .str _ => true | .list _ => false | .tuple ds => immA ds | .dict _ => false
def immA : List PyData → Bool
  | [] => true
  | d :: ds => imm d && immA ds
end
/-- tuples stay -/
def Im (H H' : Hp) : Prop := ∀ a xs, Rd H a (.tup xs) → Rd H' a (.tup xs)
theorem Im.refl (H : Hp) : Im H H := fun _ _ h => h
theorem Im.trans {H H1 H2 : Hp} (a : Im H H1) (b : Im H1 H2) : Im H H2 := fun x xs h => b x xs (a x xs h)
theorem im_ex {H H' : Hp} (e : Ex H H') : Im H H' := fun _ _ h => ex_rd e h
/-- an object that is no tuple changes -/
theorem im_upd {H : Hp} {a : Addr} {o u : HO} (h : H a = some o) (hn : ∀ xs, o ≠ .tup xs) (hf : ∀ ob xs, o ≠ .frz ob (.tup xs)) : Im H (upd H a u) := fun b xs hb => by
  have ne : b ≠ a := fun e => by
    subst e
    rcases hb with hb | ⟨ob, hb⟩ <;> rw [h] at hb
    · exact hn xs (Option.some.inj hb)
    · exact hf ob xs (Option.some.inj hb)
  rcases hb with hb | ⟨ob, hb⟩
  · exact .inl (by rw [upd_ne ne]; exact hb)
  · exact .inr ⟨ob, by rw [upd_ne ne]; exact hb⟩
theorem im_lst {H : Hp} {a : Addr} {xs : List V} {u : HO} (h : H a = some (.lst xs)) : Im H (upd H a u) := im_upd h (fun _ => by intro z; cases z) (fun _ _ => by intro z; cases z)
mutual
theorem dpi {K : PySem.W.Frag} {H H' : Hp} (e : Im H H') : ∀ (d : PyData) (v : V), imm d = true → Dp K H v d → Dp K H' v d
  | _, _, _, .non => .non
  | _, _, _, .bl b => .bl b
  | _, _, _, .int i => .int i
  | _, _, _, .str x => .str x
  | _, _, q, .lst h hs => absurd q (by simp [imm])
  | _, _, q, .tup h hs => .tup (h.elim (fun h => .inl (e _ _ h)) .inr) (dpiA e _ _ (by simpa [imm] using q) hs)
theorem dpiA {K : PySem.W.Frag} {H H' : Hp} (e : Im H H') : ∀ (ds : List PyData) (vs : List V), immA ds = true → DpAll K H vs ds → DpAll K H' vs ds
  | _, _, _, .nil => .nil
  | _, _, q, .cons h hs => by
    rw [immA, Bool.and_eq_true] at q
    exact .cons (dpi e _ _ q.1 h) (dpiA e _ _ q.2 hs)
end
theorem immA_app {ds es : List PyData} (h : immA ds = true) (h' : immA es = true) : immA (ds ++ es) = true := by
  induction ds with
  | nil => exact h'
  | cons d r ih =>
    rw [immA, Bool.and_eq_true] at h
    show (imm d && immA (r ++ es)) = true
    rw [h.1, ih h.2]; rfl
theorem immA_iff {ds : List PyData} : immA ds = true ↔ ∀ d ∈ ds, imm d = true := by
  induction ds with
  | nil => simp [immA]
  | cons d r ih => rw [immA, Bool.and_eq_true, ih]; simp

/-- items of a list that grows: what stood in H0, or what is told by tuples -/
inductive DpG (K : PySem.W.Frag) (H0 H : Hp) : List V → List PyData → Prop
  | nil : DpG K H0 H [] []
  | cons {v : V} {vs : List V} {d : PyData} {ds : List PyData} : (Dp K H0 v d ∨ (imm d = true ∧ Dp K H v d)) → DpG K H0 H vs ds → DpG K H0 H (v :: vs) (d :: ds)
theorem dpg_len {K : PySem.W.Frag} {H0 H : Hp} {vs : List V} {ds : List PyData} (h : DpG K H0 H vs ds) : vs.length = ds.length := by
  induction h with
  | nil => rfl
  | cons _ _ ih => exact congrArg (· + 1) ih
theorem dpg_app {K : PySem.W.Frag} {H0 H : Hp} {vs ws : List V} {ds es : List PyData} (h : DpG K H0 H vs ds) (h' : DpG K H0 H ws es) : DpG K H0 H (vs ++ ws) (ds ++ es) := by
  induction h with
  | nil => exact h'
  | cons a _ ih => exact .cons a ih
theorem dpg_im {K : PySem.W.Frag} {H0 H H' : Hp} {vs : List V} {ds : List PyData} (e : Im H H') (h : DpG K H0 H vs ds) : DpG K H0 H' vs ds := by
  induction h with
  | nil => exact .nil
  | cons a _ ih => exact .cons (a.elim .inl fun z => .inr ⟨z.1, dpi e _ _ z.1 z.2⟩) ih
theorem dpg_all {K : PySem.W.Frag} {H0 H : Hp} {vs : List V} {ds : List PyData} (e : Ex H0 H) (h : DpG K H0 H vs ds) : DpAll K H vs ds := by
  induction h with
  | nil => exact .nil
  | cons a _ ih => exact .cons (a.elim (fun z => dpx e _ _ z) fun z => z.2) ih

/-! ## comprehensions over data -/
def GMono (g : TG) : Prop := ∀ v σ H Q Q', (∀ σ H, Q σ H → Q' σ H) → g v σ H Q → g v σ H Q'
theorem gm_name {j : Nat} : GMono (gName j) := fun _ _ _ _ _ k h => k _ _ h
def GsMono (g : TGs) : Prop := ∀ vs σ H Q Q', (∀ σ H, Q σ H → Q' σ H) → g vs σ H Q → g vs σ H Q'
theorem gm_nil : GsMono gNil := fun _ _ _ _ _ k h => ⟨h.1, k _ _ h.2⟩
theorem gm_cons {g : TG} {gs : TGs} (a : GMono g) (b : GsMono gs) : GsMono (gCons g gs) := fun _ _ _ _ _ k h => by
  obtain ⟨v, r, e, h⟩ := h
  exact ⟨v, r, e, a _ _ _ _ _ (fun σ H q => b _ _ _ _ _ k q) h⟩
theorem gm_tup {K : PySem.W.Frag} {n : Nat} {gs : TGs} (b : GsMono gs) : GMono (gTup K n gs) := fun _ _ _ _ _ k h => by
  obtain ⟨a, xs, e, h1, h2, h⟩ := h
  exact ⟨a, xs, e, h1, h2, b _ _ _ _ _ k h⟩
/-- an element: what stood already, or what is told by tuples alone -/
def EvG (K : PySem.W.Frag) (te : TE) (σ : L2.St) (H0 H : Hp) (d : PyData) : Prop := ∀ H1, Ex H H1 → ∀ Q : VK, (∀ v H2, Ex H1 H2 → (Dp K H0 v d ∨ (imm d = true ∧ Dp K H2 v d)) → Q v H2) → te σ H1 Q
theorem evg_imm {K : PySem.W.Frag} {te : TE} {σ : L2.St} {H0 H : Hp} {d : PyData} (hi : imm d = true) (h : EvD K te σ H d) : EvG K te σ H0 H d := fun H1 e Q q => h H1 e Q fun v H2 e2 p => q v H2 e2 (.inr ⟨hi, p⟩)
theorem evg_var {K : PySem.W.Frag} {σ : L2.St} {H0 H : Hp} {d : PyData} {k : Nat} {v : V} (h : σ[k]? = some (some v)) (p : Dp K H0 v d) : EvG K (tVar k) σ H0 H d := fun H1 e Q q => ⟨v, h, q v H1 (Ex.refl H1) (.inl p)⟩
section
variable {K : PySem.W.Frag} {α : Type}
theorem lc_gen (l : List α) {J : It} {G : Hp → Prop} {Y : Nat → Hp → V → Hp → Prop} (w : Walk J l.length G Y) (p : α → Bool) (f : α → PyData) {g : TG} {tt : TT} {te : TE} {vs : List Nat} {σ : L2.St} {H1 : Hp} {Q : VK}
    (gm : GMono g) (hl : l.length ≤ 100000) (hG : ∀ H', Ex H1 H' → G H')
    (hs : ∀ i a x H2 H3, l[i]? = some a → Ex H1 H2 → Y i H2 x H3 → Ex H2 H3 ∧ g x (wipe σ vs) H3 fun σ2 H4 => H4 = H3 ∧ wipe σ2 vs = wipe σ vs ∧ EvT tt σ2 H3 (p a) ∧ (p a = true → EvG K te σ2 H1 H3 (f a)))
    (q : ∀ v H2, Ex H1 H2 → Dp K H2 v (.list ((l.filter p).map f)) → Q v H2) (D : Addr) (hD : H1 D = none) :
    ∃ W : Nat → Nat → Hp → Prop, (∃ m, W 0 m (upd H1 D (.lst []))) ∧ ∀ i m H, W i m H →
      (J.stop i H ∧ Q (.ref D) H) ∨ (J.go i H ∧ ∃ Nx : Hp → Prop, (∀ H', Nx H' → ∃ m', m' < m ∧ W (i + 1) m' H') ∧ ∀ x H', J.yld i H x H' → g x (wipe σ vs) H' fun σ2 H2 => wipe σ2 vs = wipe σ vs ∧ tt σ2 H2 fun b H3 =>
        if b = true then te σ2 H3 fun y H4 => ∃ acc, H4 D = some (.lst acc) ∧ acc.length < sizeLine ∧ Nx (upd H4 D (.lst (acc ++ [y]))) else Nx H3) := by
  refine lc_it w (fun i H' => Ex H1 H' ∧ ∃ acc, H' D = some (.lst acc) ∧ DpG K H1 H' acc (((l.take i).filter p).map f)) ⟨Ex.new hD, [], upd_same, .nil⟩ (fun i H' _ h => hG H' h.1) (fun i x H' H2 hi h y => ?_) (fun H' h => ?_)
  · obtain ⟨e1, acc, ha, hacc⟩ := h
    have hia : l[i]? = some l[i] := by simp [hi]
    obtain ⟨e2, h⟩ := hs i l[i] x H' H2 hia e1 y
    have tk : l.take (i + 1) = l.take i ++ [l[i]] := by rw [List.take_succ, hia]; rfl
    have hacl : acc.length ≤ i := by
      rw [dpg_len hacc, List.length_map]
      have h1 := List.length_filter_le p (l.take i)
      rw [List.length_take] at h1
      omega
    refine gm _ _ _ _ _ (fun σ2 H3 h => ?_) h
    obtain ⟨rfl, hw, ht, he⟩ := h
    refine ⟨hw, ht _ (Ex.refl _) _ fun H4 e4 => ?_⟩
    by_cases hp : p l[i] = true
    · rw [if_pos hp]
      refine he hp H4 e4 _ fun y H5 e5 py => ?_
      have aD : H5 D = some (.lst acc) := e5 D _ (e4 D _ (e2 D _ ha))
      refine ⟨acc, aD, sz_lt (by omega), ?_, acc ++ [y], upd_same, ?_⟩
      · exact Ex.mut (((e1.trans e2).trans e4).trans e5) hD
      · rw [tk, List.filter_append, List.map_append]
        refine dpg_app (dpg_im (im_lst aD) (dpg_im (im_ex ((e2.trans e4).trans e5)) hacc)) ?_
        rw [List.filter_cons, if_pos hp]
        exact .cons (py.elim .inl fun z => .inr ⟨z.1, dpi (im_lst aD) _ _ z.1 z.2⟩) .nil
    · rw [if_neg hp]
      refine ⟨(e1.trans e2).trans e4, acc, e4 D _ (e2 D _ ha), ?_⟩
      rw [tk, List.filter_append, List.map_append, List.filter_cons, if_neg hp]
      show DpG K H1 H4 acc (_ ++ [])
      rw [List.append_nil]
      exact dpg_im (im_ex (e2.trans e4)) hacc
  · obtain ⟨e1, acc, ha, hacc⟩ := h
    rw [List.take_length] at hacc
    exact q _ _ e1 (.lst (sq_of ha) (dpg_all e1 hacc))
variable {H : Hp} {σ : L2.St} {tl te : TE} {tt : TT} {j : Nat} {vs : List Nat} {ds : List PyData}
/-- over a tuple, the target a name -/
theorem d_lcT (p : PyData → Bool) (f : PyData → PyData) (h : EvD K tl σ H (.tuple ds)) (hl : ds.length ≤ 100000) (hw : ∀ x, wipe ((wipe σ vs).set j (some x)) vs = wipe σ vs)
    (ht : ∀ d ∈ ds, ∀ v H1, Ex H H1 → Dp K H1 v d → EvT tt ((wipe σ vs).set j (some v)) H1 (p d)) (he : ∀ d ∈ ds, p d = true → ∀ v H0 H1, Ex H H0 → Ex H0 H1 → Dp K H0 v d → EvG K te ((wipe σ vs).set j (some v)) H0 H1 (f d)) :
    EvD K (tLc (iTup K tl) (gName j) tt te vs) σ H (.list ((ds.filter p).map f)) := fun H0 e Q q => h H0 e _ fun v H1 e1 pv => by
  cases pv with
  | @tup a xs _ hx hs =>
    have lx : xs.length = ds.length := dp_len hs
    have ww : Walk (Itt K a) ds.length (fun H => SqT K H a xs) (YAt xs) := by rw [← lx]; exact walk_tup
    refine ⟨a, rfl, ⟨xs, hx⟩, fun D hD => lc_gen ds ww p f gm_name hl (fun H' e' => ex_t e' hx) (fun i d x H2 H3 hi e2 y => ?_) (fun v H2 e2 pv => q v H2 (e1.trans e2) pv) D hD⟩
    obtain ⟨rfl, hxi⟩ := y
    obtain ⟨d', hd', pd⟩ := dp_at' hs hxi
    rw [hi] at hd'; cases hd'
    have hm := List.mem_of_getElem? hi
    have pd' := dpx e2 _ _ pd
    exact ⟨Ex.refl _, rfl, hw x, ht d hm x _ ((e.trans e1).trans e2) pd', fun hp => he d hm hp x _ _ (e.trans e1) e2 pd⟩
theorem d_lcL (p : PyData → Bool) (f : PyData → PyData) (h : EvD K tl σ H (.list ds)) (hl : ds.length ≤ 100000) (hw : ∀ x, wipe ((wipe σ vs).set j (some x)) vs = wipe σ vs)
    (ht : ∀ d ∈ ds, ∀ v H1, Ex H H1 → Dp K H1 v d → EvT tt ((wipe σ vs).set j (some v)) H1 (p d)) (he : ∀ d ∈ ds, p d = true → ∀ v H0 H1, Ex H H0 → Ex H0 H1 → Dp K H0 v d → EvG K te ((wipe σ vs).set j (some v)) H0 H1 (f d)) :
    EvD K (tLc (iList K tl) (gName j) tt te vs) σ H (.list ((ds.filter p).map f)) := fun H0 e Q q => h H0 e _ fun v H1 e1 pv => by
  cases pv with
  | @lst a xs _ hx hs =>
    have lx : xs.length = ds.length := dp_len hs
    have ww : Walk (Itl K a) ds.length (fun H => SqL K H a xs) (YAt xs) := by rw [← lx]; exact walk_list
    refine ⟨a, rfl, ⟨xs, hx⟩, fun D hD => lc_gen ds ww p f gm_name hl (fun H' e' => ex_l e' hx) (fun i d x H2 H3 hi e2 y => ?_) (fun v H2 e2 pv => q v H2 (e1.trans e2) pv) D hD⟩
    obtain ⟨rfl, hxi⟩ := y
    obtain ⟨d', hd', pd⟩ := dp_at' hs hxi
    rw [hi] at hd'; cases hd'
    have hm := List.mem_of_getElem? hi
    have pd' := dpx e2 _ _ pd
    exact ⟨Ex.refl _, rfl, hw x, ht d hm x _ ((e.trans e1).trans e2) pd', fun hp => he d hm hp x _ _ (e.trans e1) e2 pd⟩
/-- over a text's signs -/
theorem d_lcS {s : Str} (p : Nat → Bool) (f : Nat → PyData) (h : EvD K tl σ H (.str s)) (him : ∀ c ∈ s.cps.toList, p c = true → imm (f c) = true) (hl : s.length ≤ 100000) (hw : ∀ x, wipe ((wipe σ vs).set j (some x)) vs = wipe σ vs)
    (ht : ∀ c ∈ s.cps.toList, ∀ H1, Ex H H1 → EvT tt ((wipe σ vs).set j (some (.str ⟨#[c]⟩))) H1 (p c)) (he : ∀ c ∈ s.cps.toList, p c = true → ∀ H1, Ex H H1 → EvD K te ((wipe σ vs).set j (some (.str ⟨#[c]⟩))) H1 (f c)) :
    EvD K (tLc (iStr tl) (gName j) tt te vs) σ H (.list ((s.cps.toList.filter p).map f)) := fun H0 e Q q => h H0 e _ fun v H1 e1 pv => by
  cases pv
  refine ⟨s, rfl, fun D hD => lc_gen s.cps.toList (J := Its s) (G := fun _ => True) (Y := fun i H v H' => H' = H ∧ ∃ c, s.cps[i]? = some c ∧ v = .str ⟨#[c]⟩) (by rw [Array.length_toList]; exact walk_str) p f gm_name (by rw [Array.length_toList]; exact hl) (fun _ _ => True.intro) (fun i c x H2 H3 hi e2 y => ?_) (fun v H2 e2 pv => q v H2 (e1.trans e2) pv) D hD⟩
  obtain ⟨rfl, c', hc', rfl⟩ := y
  have hcc : c' = c := by
    rw [Array.getElem?_toList] at hi
    rw [hi] at hc'; exact (Option.some.inj hc').symm
  subst hcc
  have hm := List.mem_of_getElem? hi
  exact ⟨Ex.refl _, rfl, hw _, ht c' hm _ ((e.trans e1).trans e2), fun hp => evg_imm (him c' hm hp) (he c' hm hp _ ((e.trans e1).trans e2))⟩
theorem t_yes : EvT tYes σ H true := fun H1 _ _ q => q H1 (Ex.refl H1)
/-- not xs, xs a list or a tuple -/
theorem d_notL (h : EvD K te σ H (.list ds)) : EvD K (tNotT K te) σ H (.bool ds.isEmpty) := fun H1 e Q q => h H1 e _ fun v H2 e2 p => by
  cases p with
  | @lst a xs _ h hs =>
    refine ⟨_, .inl ⟨xs, h, rfl⟩, ?_⟩
    have : xs.isEmpty = ds.isEmpty := by cases hs <;> rfl
    rw [this, Bool.not_not]; exact q _ H2 e2 (.bl _)
/-- x in a tuple, a list of flat things -/
theorem d_inS {ta tb : TE} {c : Nat} {s : Str} (ha : EvD K ta σ H (.str ⟨#[c]⟩)) (hb : EvD K tb σ H (.str s)) : EvD K (tOp rInS ta tb) σ H (.bool (decide (c ∈ s.cps.toList))) :=
  d_op ha hb fun v w H1 _ p p' Q q => by cases p; cases p'; exact ⟨c, s, rfl, rfl, q _ H1 (Ex.refl H1) (.bl _)⟩
theorem d_ninS {ta tb : TE} {c : Nat} {s : Str} (ha : EvD K ta σ H (.str ⟨#[c]⟩)) (hb : EvD K tb σ H (.str s)) : EvD K (tOp rNotInS ta tb) σ H (.bool (!decide (c ∈ s.cps.toList))) :=
  d_op ha hb fun v w H1 _ p p' Q q => by cases p; cases p'; exact ⟨c, s, rfl, rfl, q _ H1 (Ex.refl H1) (.bl _)⟩
theorem inV_strs (s : Str) (l : List Str) : inV (.str s) (l.map V.str) = decide (s ∈ l) := by
  induction l with
  | nil => simp [inV]
  | cons a r ih =>
    have : inV (.str s) ((a :: r).map V.str) = (eqV (.str a) (.str s) || inV (.str s) (r.map V.str)) := rfl
    rw [this, ih]
    by_cases h : a = s
    · subst h; simp [eqV]
    · have h' : ¬ s = a := fun z => h z.symm
      simp [eqV, h, h']
theorem flat_strs (l : List Str) : (l.map V.str).all flatV = true := by
  induction l with
  | nil => rfl
  | cons a r ih => exact ih
/-- a text in a tuple of written texts -/
theorem d_inC {ta tb : TE} {s : Str} {a : Addr} {l : List Str} (ha : EvD K ta σ H (.str s)) (hb : tb = tC (.ref a)) (hl : ∀ H, SqT K H a (l.map V.str)) : EvD K (tOp (rIn K false) ta tb) σ H (.bool (decide (s ∈ l))) := fun H1 e Q q =>
  ha H1 e _ fun v H2 e2 p => by
    subst hb; cases p
    refine ⟨a, l.map V.str, rfl, .inr (hl H2), rfl, flat_strs l, q _ H2 e2 ?_⟩
    rw [inV_strs]; exact .bl _
end

section
variable {σ : L2.St} {H : Hp} {t u : TT} {b : Bool}
theorem t_not1 (h : EvT t σ H false) : EvT (tNot t) σ H true := et_not h
theorem t_not0 (h : EvT t σ H true) : EvT (tNot t) σ H false := et_not h
theorem t_or1 (h : EvT t σ H true) : EvT (tOr t u) σ H true := et_or (b := true) h (fun z => nomatch z)
theorem t_or0 (h : EvT t σ H false) (h2 : EvT u σ H b) : EvT (tOr t u) σ H b := (et_is (et_or h fun _ => h2) (Bool.false_or b))
theorem t_and0 (h : EvT t σ H false) : EvT (tAnd t u) σ H false := et_and (b := true) h (fun z => nomatch z)
theorem t_and1 (h : EvT t σ H true) (h2 : EvT u σ H b) : EvT (tAnd t u) σ H b := (et_is (et_and h fun _ => h2) (Bool.true_and b))
end
/-- a def that is not reached -/
theorem fn_never {P : Program} {w : World} {K : PySem.W.Frag} {mg : Str → Option Value} {base : Heap} {CX : CXT} {k : Nat} {f : Addr} {fd : FuncData} {ps : List Str} : FnOk P w K mg base CX k f fd ps (fun _ _ _ _ => False) :=
  ⟨fun _ _ _ _ h => h.elim, fun _ _ _ _ _ _ _ _ _ _ _ _ _ h => h.elim⟩

/-! ## the promise of a def that only tells data -/
def spP {α : Type} (K : PySem.W.Frag) (enc : α → List PyData) (pre : α → Prop) (res : α → PyData) : Sp := fun vs H Q _ => ∃ a, DpAll K H vs (enc a) ∧ pre a ∧ RetD K (res a) H Q
theorem spP_len {α : Type} {K : PySem.W.Frag} {enc : α → List PyData} {pre : α → Prop} {res : α → PyData} {n : Nat} (h : ∀ a, (enc a).length = n) : ∀ vs H Q E, spP K enc pre res vs H Q E → vs.length = n := fun vs H Q E ⟨a, hd, _⟩ => by
  rw [dp_len hd, h]
theorem d_call {α : Type} {K : PySem.W.Frag} {enc : α → List PyData} {pre : α → Prop} {res : α → PyData} {ta : TA} {σ : L2.St} {H : Hp} {E : XK} (a : α) (ha : EvDs K ta σ H (enc a)) (hp : pre a) : EvD K (tCall (spP K enc pre res) [] E ta) σ H (res a) := fun H1 e Q q =>
  ha H1 e _ fun vs H2 e2 ps => by
    rw [List.append_nil]
    exact ⟨a, ps, hp, fun v H3 e3 p => q v H3 (e2.trans e3) p⟩
theorem dp1 {K : PySem.W.Frag} {H : Hp} {vs : List V} {d : PyData} (h : DpAll K H vs [d]) : ∃ v, vs = [v] ∧ Dp K H v d := by
  cases h with | cons a r => cases r; exact ⟨_, rfl, a⟩
theorem dp2 {K : PySem.W.Frag} {H : Hp} {vs : List V} {d e : PyData} (h : DpAll K H vs [d, e]) : ∃ v w, vs = [v, w] ∧ Dp K H v d ∧ Dp K H w e := by
  cases h with | cons a r => cases r with | cons b r => cases r; exact ⟨_, _, rfl, a, b⟩
theorem dp3 {K : PySem.W.Frag} {H : Hp} {vs : List V} {d e f : PyData} (h : DpAll K H vs [d, e, f]) : ∃ v w x, vs = [v, w, x] ∧ Dp K H v d ∧ Dp K H w e ∧ Dp K H x f := by
  cases h with | cons a r => cases r with | cons b r => cases r with | cons c r => cases r; exact ⟨_, _, _, rfl, a, b, c⟩
theorem dp_int {K : PySem.W.Frag} {H : Hp} {v : V} {i : Int} (h : Dp K H v (.int i)) : v = .int i := by cases h; rfl
theorem dp_str {K : PySem.W.Frag} {H : Hp} {v : V} {s : Str} (h : Dp K H v (.str s)) : v = .str s := by cases h; rfl
/-- flat equality with an own tuple's place -/
theorem d_slT1 {K : PySem.W.Frag} {ta : TE} {σ : L2.St} {H : Hp} {d : PyData} {ds : List PyData} (ha : EvD K ta σ H (.tuple (d :: ds))) : EvD K (tSl (rSlA K) ta (tPart (tC (.int 1))) tNoPart) σ H (.tuple ds) :=
  (d_slT ha (o_some d_int) o_none).is (by
    unfold cutD
    have h1 : HT.sIx (d :: ds).length 0 (some (1 : Int)) = 1 := by
      rw [show (1 : Int) = ((1 : Nat) : Int) from rfl, HT.sIx_nat]
      simp
    have h2 : HT.sIx (d :: ds).length (d :: ds).length none = (d :: ds).length := HT.sIx_none _ _
    rw [h1, h2]; simp)

theorem at_0 {α : Type} {a : α} {l : List α} : atI (a :: l) 0 = some a := atI_nat (j := 0) rfl
theorem at_1 {α : Type} {a b : α} {l : List α} : atI (a :: b :: l) 1 = some b := atI_nat (j := 1) rfl
theorem at_2 {α : Type} {a b c : α} {l : List α} : atI (a :: b :: c :: l) 2 = some c := atI_nat (j := 2) rfl
theorem at_3 {α : Type} {a b c d : α} {l : List α} : atI (a :: b :: c :: d :: l) 3 = some d := atI_nat (j := 3) rfl
theorem at_m2 {α : Type} {a b : α} : atI [a, b] (-1) = some b := atI_last [a] b
theorem at_m3 {α : Type} {a b c : α} : atI [a, b, c] (-1) = some c := atI_last [a, b] c

/-! ## lists that are tracked -/
def IsL (K : PySem.W.Frag) (H : Hp) (v : V) (ds : List PyData) : Prop := ∃ p vs, v = .ref p ∧ H p = some (.lst vs) ∧ DpAll K H vs ds
theorem IsL.up {K : PySem.W.Frag} {H H' : Hp} {v : V} {ds : List PyData} (e : Ex H H') (h : IsL K H v ds) : IsL K H' v ds := by
  obtain ⟨p, vs, rfl, hp, hs⟩ := h
  exact ⟨p, vs, rfl, e _ _ hp, dpxA e _ _ hs⟩
theorem IsL.dp {K : PySem.W.Frag} {H : Hp} {v : V} {ds : List PyData} (h : IsL K H v ds) : Dp K H v (.list ds) := by
  obtain ⟨p, vs, rfl, hp, hs⟩ := h
  exact .lst (sq_of hp) hs
def EvL (K : PySem.W.Frag) (te : TE) (σ : L2.St) (H : Hp) (ds : List PyData) : Prop := ∀ H1, Ex H H1 → ∀ Q : VK, (∀ v H2, Ex H1 H2 → IsL K H2 v ds → Q v H2) → te σ H1 Q
section
variable {K : PySem.W.Frag} {H H' : Hp} {σ : L2.St} {te ta tb : TE} {tq : TA} {ds es : List PyData} {v : V} {d : PyData} {D : Ends} {tz tu : TS} {b : Bool} {t : TT}
theorem EvL.dat (h : EvL K te σ H ds) : EvD K te σ H (.list ds) := fun H1 e Q q => h H1 e Q fun v H2 e2 p => q v H2 e2 p.dp
theorem EvL.is (h : EvL K te σ H ds) (e : ds = es) : EvL K te σ H es := e ▸ h
theorem l_var {k : Nat} (h : σ[k]? = some (some v)) (p : IsL K H v ds) : EvL K (tVar k) σ H ds := fun H1 e Q q => ⟨v, h, q v H1 (Ex.refl H1) (p.up e)⟩
theorem l_lst (h : EvDs K tq σ H ds) (hl : ds.length ≤ 100000) : EvL K (tLst tq) σ H ds := fun H1 e Q q =>
  h H1 e _ fun vs H2 e2 ps => ⟨sz_of (by rw [dp_len ps]; exact hl), fun p hp => q _ _ (e2.trans (Ex.new hp)) ⟨p, vs, rfl, upd_same, dpxA (Ex.new hp) _ _ ps⟩⟩
theorem l_cat (ha : EvL K ta σ H ds) (hb : EvL K tb σ H es) (hl : ds.length + es.length ≤ 100000) : EvL K (tOp rCat ta tb) σ H (ds ++ es) := fun H1 e Q q =>
  ha H1 e _ fun v H2 e2 p => hb H2 (e.trans e2) _ fun w H3 e3 p' => by
    obtain ⟨p1, vs, rfl, hp, hs⟩ := p.up e3
    obtain ⟨p2, ws, rfl, hp2, hs2⟩ := p'
    exact ⟨p1, p2, vs, ws, rfl, rfl, hp, hp2, sz_of (by rw [dp_len hs, dp_len hs2]; exact hl), fun r hr => q _ _ ((e2.trans e3).trans (Ex.new hr)) ⟨r, vs ++ ws, rfl, upd_same, dpxA (Ex.new hr) _ _ (dp_app hs hs2)⟩⟩
theorem q_asgD {i : Nat} (h : EvD K te σ H d) (k : ∀ v H1, Ex H H1 → Dp K H1 v d → tz D (σ.set i (some v)) H1) : tSeq (tAsg te (gName i)) tz D σ H := h H (Ex.refl H) _ fun v H2 e p => k v H2 e p
theorem q_asgLd {i : Nat} (h : EvL K te σ H ds) (k : ∀ v H1, Ex H H1 → IsL K H1 v ds → tz D (σ.set i (some v)) H1) : tSeq (tAsg te (gName i)) tz D σ H := h H (Ex.refl H) _ fun v H2 e p => k v H2 e p
theorem s_ifD {tw : TS} (h : EvT t σ H b) (h1 : b = true → ∀ H1, Ex H H1 → tu D σ H1) (h2 : b = false → ∀ H1, Ex H H1 → tw D σ H1) : tIfS t tu tw D σ H := Evl.s_if h h1 h2
theorem q_ifD {tw : TS} (h : EvT t σ H b) (h1 : b = true → ∀ H1, Ex H H1 → tu { D with nx := tz D } σ H1) (h2 : b = false → ∀ H1, Ex H H1 → tw { D with nx := tz D } σ H1) : tSeq (tIfS t tu tw) tz D σ H := Evl.q_if h h1 h2
theorem q_drop (h : EvD K te σ H d) (k : ∀ H1, Ex H H1 → tz D σ H1) : tSeq (tDrop te) tz D σ H := h H (Ex.refl H) _ fun v H2 e p => k H2 e
/-- [f k for k in range(n)] -/
theorem l_lcR {tq : TA} {tt : TT} {j : Nat} {vs : List Nat} {n : Int} (p : Nat → Bool) (f : Nat → PyData) (h : EvDs K tq σ H [.int n]) (hn : 0 ≤ n ∧ n ≤ 40000) (him : ∀ i : Nat, (i : Int) < n → imm (f i) = true) (hw : ∀ x, wipe ((wipe σ vs).set j (some x)) vs = wipe σ vs)
    (ht : ∀ (i : Nat) H1, Ex H H1 → (i : Int) < n → EvT tt ((wipe σ vs).set j (some (.int (i : Int)))) H1 (p i)) (he : ∀ (i : Nat) H1, Ex H H1 → (i : Int) < n → p i = true → EvD K te ((wipe σ vs).set j (some (.int (i : Int)))) H1 (f i)) :
    EvD K (tLc (iRng1 tq) (gName j) tt te vs) σ H (.list (((List.range n.toNat).filter p).map f)) := fun H0 e Q q => h H0 e _ fun ws H1 e1 pv => by
  obtain ⟨v, rfl, pz⟩ := dp1 pv
  obtain rfl := dp_int pz
  refine ⟨n, rfl, by omega, by omega, fun D hD => ?_⟩
  have lr : (List.range n.toNat).length = n.toNat := List.length_range
  refine lc_gen (List.range n.toNat) (J := Itr 0 n.toNat) (G := fun _ => True) (Y := YFn fun i => .int (0 + i)) (by rw [lr]; exact walk_range) p f gm_name (by rw [lr]; omega) (fun _ _ => True.intro) (fun i a x H2 H3 hi e2 y => ?_) (fun v H2 e2 pv => q v H2 (e1.trans e2) pv) D hD
  obtain ⟨rfl, rfl⟩ := y
  obtain ⟨hi1, hi2⟩ := List.getElem?_eq_some_iff.mp hi
  rw [lr] at hi1
  rw [List.getElem_range] at hi2
  subst hi2
  have hin : (i : Int) < n := by omega
  have e0 : (0 : Int) + (i : Int) = (i : Int) := Int.zero_add _
  dsimp only
  rw [e0]
  exact ⟨Ex.refl _, rfl, hw _, ht i _ ((e.trans e1).trans e2) hin, fun hp => evg_imm (him i hin) (he i _ ((e.trans e1).trans e2) hin hp)⟩
end

section
variable {K : PySem.W.Frag} {H H' : Hp} {σ : L2.St} {te ta tb : TE} {tq : TA} {ds es : List PyData} {v : V} {d : PyData} {D : Ends} {tz tu : TS} {b : Bool} {t : TT}
/-- name = [] -/
theorem q_nil {i : Nat} (k : ∀ p, H p = none → tz D (σ.set i (some (.ref p))) (upd H p (.lst []))) : tSeq (tAsg (tLst tNil) (gName i)) tz D σ H := ⟨by rw [sizeLine_eq]; exact Nat.zero_le _, fun p hp => k p hp⟩
/-- xs.append(e), xs a list in hand -/
theorem s_app {i : Nat} {p : Addr} {vs : List V} (hi : σ[i]? = some (some (.ref p))) (hl : H p = some (.lst vs)) (h : EvD K te σ H d) (hz : vs.length < 100000) (k : ∀ y H1, Ex H H1 → Dp K H1 y d → D.nx σ (upd H1 p (.lst (vs ++ [y])))) :
    tDrop (tBM K "list" rAppend (tVar i) (tCons te tNil)) D σ H :=
  ⟨.ref p, hi, .inl ⟨rfl, _, SqL.of hl⟩, h H (Ex.refl H) _ fun y H1 e py => ⟨p, vs, y, rfl, rfl, e _ _ hl, sz_lt hz, k y H1 e py⟩⟩
theorem q_app {i : Nat} {p : Addr} {vs : List V} (hi : σ[i]? = some (some (.ref p))) (hl : H p = some (.lst vs)) (h : EvD K te σ H d) (hz : vs.length < 100000) (k : ∀ y H1, Ex H H1 → Dp K H1 y d → tz D σ (upd H1 p (.lst (vs ++ [y])))) :
    tSeq (tDrop (tBM K "list" rAppend (tVar i) (tCons te tNil))) tz D σ H := s_app (D := { D with nx := tz D }) hi hl h hz k
/-- tuple(xs) -/
theorem d_tupL {K : PySem.W.Frag} (h : EvD K ta σ H (.list ds)) : EvD K (tCB (fun xs H Q => ∃ p ys, xs = [V.ref p] ∧ ((SqL K H p ys ∧ ∀ l, H l = none → Q (.ref l) (upd H l (.tup ys))) ∨ (SqT K H p ys ∧ Q (.ref p) H))) (tCons ta tNil)) σ H (.tuple ds) := fun H1 e Q q =>
  h H1 e _ fun v H2 e2 p => by
    cases p with
    | lst h hs => exact ⟨_, _, rfl, .inl ⟨h, fun l hl => q _ _ (e2.trans (Ex.new hl)) (.tup (st_of upd_same) (dpxA (Ex.new hl) _ _ hs))⟩⟩
/-- int(flag) -/
theorem d_intB {b : Bool} (h : EvD K ta σ H (.bool b)) : EvD K (tCB (fun xs H Q => (∃ i, xs = [V.int i] ∧ Q (.int i) H) ∨ ∃ k, xs = [V.bl k] ∧ Q (.int (if k then 1 else 0)) H) (tCons ta tNil)) σ H (.int (if b then 1 else 0)) := fun H1 e Q q =>
  h H1 e _ fun v H2 e2 p => by cases p; exact .inr ⟨b, rfl, q _ H2 e2 (.int _)⟩
/-- for k in range(n) -/
theorem q_forR {tq : TA} {j : Nat} {n : Int} (h : EvDs K tq σ H [.int n]) (hn : 0 ≤ n ∧ n ≤ 100000) (Pv : Nat → L2.St → Hp → Prop) (h0 : ∀ H1, Ex H H1 → Pv 0 σ H1)
    (hs : ∀ (i : Nat) σ' H', (i : Int) < n → Pv i σ' H' → tu { D with nx := Pv (i + 1), ct := Pv (i + 1), bk := tz D } (σ'.set j (some (.int (i : Int)))) H') (hd : ∀ σ' H', Pv n.toNat σ' H' → tz D σ' H') : tSeq (tFor (iRng1 tq) (gName j) tu) tz D σ H :=
  Evl.q_forR1 (n := n) (fun H1 e Q q => h H1 e _ fun ws H2 e2 pv => by
    obtain ⟨v, rfl, pz⟩ := dp1 pv
    obtain rfl := dp_int pz
    exact q H2 e2) hn Pv h0 hs hd
/-- an item of a written list, at a reckoned place -/
theorem atI_getD {α : Type} {l : List α} {i : Int} {n : Nat} (hn : l.length = n) (h0 : 0 ≤ i) (h1 : i < (n : Int)) (dflt : α) : atI l i = some (l.getD i.toNat dflt) := by
  have hi : i = ((i.toNat : Nat) : Int) := by omega
  have hl : i.toNat < l.length := by omega
  rw [hi]
  refine atI_nat ?_
  rw [List.getD_eq_getElem?_getD, Int.toNat_natCast, List.getElem?_eq_getElem hl]; rfl
theorem dp_snoc {vs : List V} {y : V} (h : DpAll K H vs ds) (hy : Dp K H y d) : DpAll K H (vs ++ [y]) (ds ++ [d]) := dp_app h (.cons hy .nil)
end

/-- a promise told by several -/
theorem fn_by {P : Program} {w : World} {K : PySem.W.Frag} {mg : Str → Option Value} {base : Heap} {CX : CXT} {k : Nat} {f : Addr} {fd : FuncData} {ps : List Str} {sp : Sp} (hl : ∀ vs H Q E, sp vs H Q E → vs.length = ps.length)
    (h : ∀ vs H Q E, sp vs H Q E → ∃ sp' : Sp, FnOk P w K mg base CX k f fd ps sp' ∧ sp' vs H Q E) : FnOk P w K mg base CX k f fd ps sp :=
  ⟨hl, fun A outer s H args us vs Q E hr e0 hb r q => by
    obtain ⟨sp', F, q'⟩ := h vs H Q E q
    exact F.run A outer s H args us vs Q E hr e0 hb r q'⟩

/-! ## own errors -/
structure ExcF (K : PySem.W.Frag) (mg : Str → Option Value) (x : Str) where
  C : Addr
  g : mg x = some (.ref C)
  x : PySem.W.excIn K C [.type "ValueError", .type "Exception", .type "BaseException", .type "object"] "ValueError.__new__" = true
  k : PySem.W.keepIn K (.ref C) = true
  s : PySem.W.subIn K (.ref C) (.type "BaseException") = some true
  t : PySem.W.typeIn K (.ref C) = some (.type "type")
  m : PySem.W.exmOne K (.ref C) (.ref C) = some true
/-- data, or an error of the class at C -/
inductive Out where
  | val (d : PyData) | err (C : Addr)
def RetX (K : PySem.W.Frag) (o : Out) (H : Hp) (Q : VK) (E : XK) : Prop := match o with
  | .val d => RetD K d H Q
  | .err C => ∀ H', Ex H H' → E (.ref C) none H'
def spX {α : Type} (K : PySem.W.Frag) (en : α → List PyData) (pre : α → Prop) (res : α → Out) : Sp := fun vs H Q E => ∃ a, DpAll K H vs (en a) ∧ pre a ∧ RetX K (res a) H Q E
theorem spX_len {α : Type} {K : PySem.W.Frag} {en : α → List PyData} {pre : α → Prop} {res : α → Out} {n : Nat} (h : ∀ a, (en a).length = n) : ∀ vs H Q E, spX K en pre res vs H Q E → vs.length = n := fun vs H Q E ⟨a, hd, _⟩ => by
  rw [dp_len hd, h]
theorem RetX.up {K : PySem.W.Frag} {o : Out} {H H' : Hp} {Q : VK} {E : XK} (e : Ex H H') (h : RetX K o H Q E) : RetX K o H' Q E := by
  cases o with
  | val d => exact RetD.up e h
  | err C => exact fun H2 e2 => h H2 (e.trans e2)
section
variable {K : PySem.W.Frag} {H : Hp} {σ : L2.St} {tq : TA} {D : Ends} {tz : TS} {α : Type} {en : α → List PyData} {pre : α → Prop} {res : α → Out} {E : XK}
/-- f(..) as a statement: it comes back, or the error goes on -/
theorem q_callX (a : α) (ha : EvDs K tq σ H (en a)) (hp : pre a) (hE : ∀ C H', res a = .err C → Ex H H' → E (.ref C) none H') (k : ∀ d H1, res a = .val d → Ex H H1 → tz D σ H1) :
    tSeq (tDrop (tCall (spX K en pre res) [] E tq)) tz D σ H := ha H (Ex.refl H) _ fun vs H1 e ps => by
  rw [List.append_nil]
  refine ⟨a, ps, hp, ?_⟩
  cases h : res a with
  | val d => exact fun v H2 e2 _ => k d H2 h (e.trans e2)
  | err C => exact fun H2 e2 => hE C H2 h (e.trans e2)
theorem s_retX (a : α) (ha : EvDs K tq σ H (en a)) (hp : pre a) (hE : ∀ C H', res a = .err C → Ex H H' → E (.ref C) none H') (k : ∀ d, res a = .val d → RetD K d H D.rt) :
    tRet (tCall (spX K en pre res) [] E tq) D σ H := ha H (Ex.refl H) _ fun vs H1 e ps => by
  rw [List.append_nil]
  refine ⟨a, ps, hp, ?_⟩
  cases h : res a with
  | val d => exact fun v H2 e2 p => k d h v H2 (e.trans e2) p
  | err C => exact fun H2 e2 => hE C H2 h (e.trans e2)
end

/-! ## data that may be compared -/
def shp (d : PyData) : Prop := SeqAt.shaped d = true
theorem shp_iff {d : PyData} : shp d ↔ d.canLay0 = true ∧ d.depth ≤ 64 := by
  unfold shp SeqAt.shaped
  rw [Bool.and_eq_true, decide_eq_true_eq]
theorem layAll_iff {ds : List PyData} : PyData.canLayAll0 ds = true ↔ ∀ d ∈ ds, d.canLay0 = true := by
  induction ds with
  | nil => simp [PyData.canLayAll0]
  | cons d r ih => rw [PyData.canLayAll0, Bool.and_eq_true, ih]; simp
theorem depAll_le {ds : List PyData} {n : Nat} : PyData.depthAll ds ≤ n ↔ ∀ d ∈ ds, d.depth ≤ n := by
  induction ds with
  | nil => simp [PyData.depthAll]
  | cons d r ih => rw [PyData.depthAll, Nat.max_le, ih]; simp
theorem shp_tup {ds : List PyData} : shp (.tuple ds) ↔ ∀ d ∈ ds, d.canLay0 = true ∧ d.depth ≤ 63 := by
  rw [shp_iff]
  show PyData.canLayAll0 ds = true ∧ PyData.depthAll ds + 1 ≤ 64 ↔ _
  rw [layAll_iff, Nat.succ_le_succ_iff, depAll_le]
  exact ⟨fun h d m => ⟨h.1 d m, h.2 d m⟩, fun h => ⟨fun d m => (h d m).1, fun d m => (h d m).2⟩⟩
theorem shp_lst {ds : List PyData} : shp (.list ds) ↔ ∀ d ∈ ds, d.canLay0 = true ∧ d.depth ≤ 63 := shp_tup
theorem shp_mem {ds : List PyData} {d : PyData} (h : shp (.tuple ds)) (m : d ∈ ds) : shp d := shp_iff.mpr ⟨(shp_tup.mp h d m).1, Nat.le_succ_of_le (shp_tup.mp h d m).2⟩
theorem shp_sub {ds es : List PyData} (h : shp (.tuple ds)) (k : ∀ d ∈ es, d ∈ ds) : shp (.list es) := shp_lst.mpr fun d m => shp_tup.mp h d (k d m)
theorem eqv_nil (l : List PyData) : PyData.eqv (.list l) (.list []) = l.isEmpty := by cases l <;> rfl
theorem eqv_nilT (l : List PyData) : PyData.eqv (.tuple l) (.tuple []) = l.isEmpty := by cases l <;> rfl
def flatD : PyData → Bool
  | .none => true | .bool _ => true | .int _ => true | .str _ => true | _ => false
def memStr : PyData → List Str → Bool
  | .str s, l => decide (s ∈ l)
  | _, _ => false
theorem inV_data {K : PySem.W.Frag} {H : Hp} {v : V} {d : PyData} (h : Dp K H v d) (f : flatD d = true) (l : List Str) : flatV v = true ∧ inV v (l.map V.str) = memStr d l := by
  cases h with
  | str s => exact ⟨rfl, inV_strs s l⟩
  | lst _ _ => cases f
  | tup _ _ => cases f
  | non => exact ⟨rfl, by induction l with | nil => rfl | cons a r ih => exact ih⟩
  | bl b => exact ⟨rfl, by induction l with | nil => rfl | cons a r ih => exact ih⟩
  | int i => exact ⟨rfl, by induction l with | nil => rfl | cons a r ih => exact ih⟩
theorem dp_strs {K : PySem.W.Frag} {H : Hp} : ∀ {l : List Str} {vs : List V}, DpAll K H vs (l.map .str) → vs = l.map V.str
  | [], _, .nil => rfl
  | _ :: _, _, .cons (.str _) r => by rw [dp_strs r]; rfl
theorem dp_ints {K : PySem.W.Frag} {H : Hp} : ∀ {l : List Int} {vs : List V}, DpAll K H vs (l.map .int) → vs = l.map V.int
  | [], _, .nil => rfl
  | _ :: _, _, .cons (.int _) r => by rw [dp_ints r]; rfl
section
variable {K : PySem.W.Frag} {H : Hp} {σ : L2.St} {ta tb tc : TE} {tq : TA} {x : PyData} {l : List Str} {s r : Str} {b c : Bool}
/-- x in (texts) -/
theorem d_inU (ha : EvD K ta σ H x) (f : flatD x = true) (hl : EvDs K tq σ H (l.map .str)) (hz : l.length ≤ 1000) : EvD K (tOp (rIn K false) ta (tTup tq)) σ H (.bool (memStr x l)) := fun H1 e Q q =>
  ha H1 e _ fun v H2 e2 p => hl H2 (e.trans e2) _ fun vs H3 e3 ps => by
    have p3 := dpx e3 _ _ p
    obtain ⟨f1, f2⟩ := inV_data p3 f l
    obtain rfl := dp_strs ps
    refine ⟨sz_of (by rw [List.length_map]; omega), fun p hp => ⟨p, _, rfl, .inr (st_of upd_same), f1, flat_strs l, q _ _ ((e2.trans e3).trans (Ex.new hp)) ?_⟩⟩
    show Dp K _ (V.bl (inV v (l.map V.str))) _
    rw [f2]; exact .bl _
theorem d_ninU (ha : EvD K ta σ H x) (f : flatD x = true) (hl : EvDs K tq σ H (l.map .str)) (hz : l.length ≤ 1000) : EvD K (tOp (rIn K true) ta (tTup tq)) σ H (.bool (!memStr x l)) := fun H1 e Q q =>
  ha H1 e _ fun v H2 e2 p => hl H2 (e.trans e2) _ fun vs H3 e3 ps => by
    have p3 := dpx e3 _ _ p
    obtain ⟨f1, f2⟩ := inV_data p3 f l
    obtain rfl := dp_strs ps
    refine ⟨sz_of (by rw [List.length_map]; omega), fun p hp => ⟨p, _, rfl, .inr (st_of upd_same), f1, flat_strs l, q _ _ ((e2.trans e3).trans (Ex.new hp)) ?_⟩⟩
    show Dp K _ (V.bl (!inV v (l.map V.str))) _
    rw [f2]; exact .bl _
/-- two comparisons of texts in a row -/
def leS (s r : Str) : Bool := !decide (r.cps.toList < s.cps.toList)
theorem d_chainS {u : Str} (ha : EvD K ta σ H (.str s)) (hb : EvD K tb σ H (.str r)) (hc : EvD K tc σ H (.str u)) :
    EvD K (tChain (fun x y H Q => ∃ i j, x = V.str i ∧ y = V.str j ∧ Q (.bl (!decide (j.cps.toList < i.cps.toList))) H) (fun x y H Q => ∃ i j, x = V.str i ∧ y = V.str j ∧ Q (.bl (!decide (j.cps.toList < i.cps.toList))) H) ta tb tc) σ H (.bool (leS s r && leS r u)) := fun H1 e Q q =>
  ha H1 e _ fun v H2 e2 p => hb H2 (e.trans e2) _ fun w H3 e3 p' => by
    cases p; cases p'
    refine ⟨s, r, rfl, rfl, leS s r, rfl, ?_⟩
    cases h : leS s r with
    | true => exact hc H3 ((e.trans e2).trans e3) _ fun w H4 e4 p4 => by cases p4; exact ⟨r, u, rfl, rfl, q _ H4 ((e2.trans e3).trans e4) (by rw [h, Bool.true_and]; exact .bl _)⟩
    | false => exact q _ H3 (e2.trans e3) (by rw [h, Bool.false_and]; exact .bl _)
end
end Y
namespace Y
open PySem L2
theorem hu64_of {A : Around} {k : Nat} (hr : Room k A) : A.units + 64 < cLine := by have := hr.un; omega
end Y
namespace Y
open PySem L2
theorem q_val {σ : L2.St} {H : Hp} {D : Ends} {te : TE} {tz : TS} {i : Nat} (Pv : V → Hp → Prop) (h : ∀ Q : VK, (∀ v H2, Pv v H2 → Q v H2) → te σ H Q) (k : ∀ v H2, Pv v H2 → tz D (σ.set i (some v)) H2) : tSeq (tAsg te (gName i)) tz D σ H := h _ k
end Y
namespace Y
open PySem L2 Evl
/-! ## isinstance, by the kinds -/
def isStrD : PyData → Bool | .str _ => true | _ => false
def isTupD : PyData → Bool | .tuple _ => true | _ => false
def isLstD : PyData → Bool | .list _ => true | _ => false
def isBoolD : PyData → Bool | .bool _ => true | _ => false
def isIntD : PyData → Bool | .int _ => true | .bool _ => true | _ => false
theorem kit_all : (["NoneType", "bool", "int", "str", "list", "tuple", "dict"].map fun a => ["str", "tuple", "list", "bool", "int"].map fun b => kitB a b) =
  [[some false, some false, some false, some false, some false], [some false, some false, some false, some true, some true], [some false, some false, some false, some false, some true], [some true, some false, some false, some false, some false],
   [some false, some false, some true, some false, some false], [some false, some true, some false, some false, some false], [some false, some false, some false, some false, some false]] := by decide +kernel
theorem kit_str (d : PyData) : kitB (kindOf d) "str" = some (isStrD d) := by
  have h := kit_all
  simp only [List.map_cons, List.map_nil, List.cons.injEq] at h
  cases d <;> simp only [kindOf, isStrD, h]
theorem kit_tup (d : PyData) : kitB (kindOf d) "tuple" = some (isTupD d) := by
  have h := kit_all
  simp only [List.map_cons, List.map_nil, List.cons.injEq] at h
  cases d <;> simp only [kindOf, isTupD, h]
theorem kit_lst (d : PyData) : kitB (kindOf d) "list" = some (isLstD d) := by
  have h := kit_all
  simp only [List.map_cons, List.map_nil, List.cons.injEq] at h
  cases d <;> simp only [kindOf, isLstD, h]
theorem kit_bool (d : PyData) : kitB (kindOf d) "bool" = some (isBoolD d) := by
  have h := kit_all
  simp only [List.map_cons, List.map_nil, List.cons.injEq] at h
  cases d <;> simp only [kindOf, isBoolD, h]
theorem kit_int (d : PyData) : kitB (kindOf d) "int" = some (isIntD d) := by
  have h := kit_all
  simp only [List.map_cons, List.map_nil, List.cons.injEq] at h
  cases d <;> simp only [kindOf, isIntD, h]
section
variable {K : PySem.W.Frag} {ta : TE} {σ : L2.St} {H : Hp} {x : PyData}
theorem d_isiS (h : EvD K ta σ H x) : EvD K (tCB (rIsi K) (tCons ta (tCons (tC (.ty "str")) tNil))) σ H (.bool (isStrD x)) := d_isi h (kit_str x)
theorem d_isiT (h : EvD K ta σ H x) : EvD K (tCB (rIsi K) (tCons ta (tCons (tC (.ty "tuple")) tNil))) σ H (.bool (isTupD x)) := d_isi h (kit_tup x)
theorem d_isiL (h : EvD K ta σ H x) : EvD K (tCB (rIsi K) (tCons ta (tCons (tC (.ty "list")) tNil))) σ H (.bool (isLstD x)) := d_isi h (kit_lst x)
theorem d_isiB (h : EvD K ta σ H x) : EvD K (tCB (rIsi K) (tCons ta (tCons (tC (.ty "bool")) tNil))) σ H (.bool (isBoolD x)) := d_isi h (kit_bool x)
theorem d_isiI (h : EvD K ta σ H x) : EvD K (tCB (rIsi K) (tCons ta (tCons (tC (.ty "int")) tNil))) σ H (.bool (isIntD x)) := d_isi h (kit_int x)
end
end Y
namespace Y
open PySem L2 Evl
/-! ## by the data's own form -/
inductive IxOf : PyData → Int → PyData → Prop
  | t {ds : List PyData} {i : Int} {d : PyData} : atI ds i = some d → IxOf (.tuple ds) i d
  | l {ds : List PyData} {i : Int} {d : PyData} : atI ds i = some d → IxOf (.list ds) i d
inductive LenOf : PyData → Nat → Prop
  | t (ds : List PyData) : LenOf (.tuple ds) ds.length
  | l (ds : List PyData) : LenOf (.list ds) ds.length
  | s {x : Str} (h : x.length ≤ 100000) : LenOf (.str x) x.length
inductive TruOf : PyData → Bool → Prop
  | t (ds : List PyData) : TruOf (.tuple ds) (!ds.isEmpty)
  | l (ds : List PyData) : TruOf (.list ds) (!ds.isEmpty)
inductive EqOf : PyData → PyData → Bool → Prop
  | s (x y : Str) : EqOf (.str x) (.str y) (decide (x = y))
  | i (x y : Int) : EqOf (.int x) (.int y) (decide (x = y))
section
variable {K : PySem.W.Frag} {ta tb te : TE} {σ : L2.St} {H : Hp} {x y d : PyData} {i : Int} {n : Nat} {b : Bool}
theorem d_ixA (ha : EvD K ta σ H x) (hb : EvD K tb σ H (.int i)) (h : IxOf x i d) : EvD K (tOp (rIx K) ta tb) σ H d := by
  cases h with
  | t h => exact d_ixT ha hb h
  | l h => exact d_ixL ha hb h
theorem d_lenA (ha : EvD K ta σ H x) (h : LenOf x n) : EvD K (tCB (rLen1 K) (tCons ta tNil)) σ H (.int (n : Int)) := by
  cases h with
  | t => exact d_lenT ha
  | l => exact d_lenL ha
  | s h => exact d_lenS ha h
theorem t_truA (ha : EvD K te σ H x) (h : TruOf x b) : EvT (fun σ H Q => te σ H fun x H' => ∃ k, TruV K x H' k ∧ Q k H') σ H b := by
  cases h with
  | t => exact t_truT ha
  | l => exact t_truL ha
theorem d_eqA (ha : EvD K ta σ H x) (hb : EvD K tb σ H y) (h : EqOf x y b) : EvD K (tOp rEq ta tb) σ H (.bool b) := by
  cases h with
  | s => exact d_eqS ha hb
  | i => exact d_eqI ha hb
theorem d_neA (ha : EvD K ta σ H x) (hb : EvD K tb σ H y) (h : EqOf x y b) : EvD K (tOp rNe ta tb) σ H (.bool (!b)) := by
  cases h with
  | s => exact d_neS ha hb
  | i => exact d_neI ha hb
end
end Y
set_option Elab.async false
set_option linter.all false
set_option maxHeartbeats 1000000
namespace Y
open PySem
/-! ## sources, typed -/
inductive Sm where
  | num (n : Int) | nam (s : Str) | op (w : Str) (a b : Sm) | ite (t a b : Sm)
inductive Rw where
  | set (x : Str) (e : Sm) | shw (e : Sm)
def encS : Sm → PyData
  | .num n => .int n
  | .nam s => .str s
  | .op w a b => .tuple [.str w, encS a, encS b]
  | .ite t a b => .tuple [.str "if", encS t, encS a, encS b]
def encR : Rw → PyData
  | .set x e => .tuple [.str "set", .str x, encS e]
  | .shw e => .tuple [.str "show", encS e]
def enc (l : List Rw) : PyData := .tuple (l.map encR)
theorem imm_encS : ∀ e : Sm, imm (encS e) = true
  | .num _ => rfl
  | .nam _ => rfl
  | .op w a b => by simp [encS, imm, immA, imm_encS a, imm_encS b]
  | .ite t a b => by simp [encS, imm, immA, imm_encS t, imm_encS a, imm_encS b]
theorem imm_encR (r : Rw) : imm (encR r) = true := by cases r <;> simp [encR, imm, immA, imm_encS]
theorem immA_encR (l : List Rw) : immA (l.map encR) = true := immA_iff.mpr fun d hd => by
  obtain ⟨r, _, rfl⟩ := List.mem_map.mp hd; exact imm_encR r
/-! ## what a law draws -/
def lawSeed (s k : Int) : Int := ((s * 1103515245 + 7919 * k + 12345) % 2147483647) ^ 5 % 2147483647
theorem natAbs_mod (x : Int) : (x % 2147483647).natAbs < 2 ^ 64 := by have := Int.emod_nonneg x (show (2147483647 : Int) ≠ 0 by decide); have := Int.emod_lt_of_pos x (show (0 : Int) < 2147483647 by decide); omega
def lawPick (s m : Int) : Int := s / 97 % m
def drawNames : List Str := [("a" : Str), ("b" : Str), "c", "wxyz"]
def leafL (s : Int) : List Sm := [.num (s / 7 % 10), .num (s / 7 % 4), .num (s / 7 % 10000), .num 0, .nam "a", .nam "b", .nam "c", .nam "wxyz", .nam "a", .nam "b"]
def leaf (s : Int) : Sm := (leafL s).getD (s / 5 % 10).toNat (.num 0)
def drawWords : List Str := [("add" : Str), ("less" : Str), "times", "over", "same", "if", "add"]
def drawWord (s : Int) : Str := drawWords.getD (s / 11 % 7).toNat "add"
def lawSum : Nat → Int → Sm
  | 0, s => leaf s
  | n + 1, s => if lawPick s 3 = 0 then leaf s else
    if drawWord s = "if" then .ite (lawSum n (lawSeed s 0)) (lawSum n (lawSeed s 1)) (lawSum n (lawSeed s 2))
    else .op (drawWord s) (lawSum n (lawSeed s 0)) (lawSum n (lawSeed s 1))
def drawDeep (one : Int) : Int := ([one / 7 % 3, 6] : List Int).getD (if one / 13 % 9 = 0 then 1 else 0) 0
def drawRow (s : Int) (k : Nat) : Rw :=
  let one := lawSeed s (20 + k)
  let e := lawSum (drawDeep one).toNat (lawSeed one 1)
  if lawPick one 3 > 0 then .set (drawNames.getD (one / 11 % 4).toNat "a") e else .shw e
def drawMany (s : Int) : Int := ([s / 7 % 4, 1 + s / 7 % 3, s / 7 % 9] : List Int).getD (s / 11 % 3).toNat 0
def lawSource (s : Int) : List Rw := (List.range (drawMany s).toNat).map (drawRow s)
theorem drawMany_le (s : Int) : 0 ≤ drawMany s ∧ drawMany s ≤ 8 := by
  unfold drawMany
  have h : (s / 11 % 3).toNat = 0 ∨ (s / 11 % 3).toNat = 1 ∨ (s / 11 % 3).toNat = 2 := by omega
  rcases h with h | h | h <;> rw [h] <;> simp [List.getD] <;> omega
theorem drawDeep_le (s : Int) : 0 ≤ drawDeep s ∧ drawDeep s ≤ 6 := by
  unfold drawDeep
  split <;> simp [List.getD] <;> omega

theorem lawSum_leaf {n : Nat} {s : Int} (h : (decide ((n : Int) < 1) || decide (lawPick s 3 = 0)) = true) : lawSum n s = leaf s := by
  cases n with
  | zero => rfl
  | succ n =>
    have h2 : lawPick s 3 = 0 := by
      rw [Bool.or_eq_true, decide_eq_true_eq, decide_eq_true_eq] at h
      rcases h with h | h
      · omega
      · exact h
    rw [lawSum, if_pos h2]
theorem lawSum_more {n : Nat} {s : Int} (h : (decide (((n + 1 : Nat) : Int) < 1) || decide (lawPick s 3 = 0)) = false) : lawSum (n + 1) s = if drawWord s = "if" then .ite (lawSum n (lawSeed s 0)) (lawSum n (lawSeed s 1)) (lawSum n (lawSeed s 2))
    else .op (drawWord s) (lawSum n (lawSeed s 0)) (lawSum n (lawSeed s 1)) := by
  have h2 : ¬ lawPick s 3 = 0 := by
    rw [Bool.or_eq_false_iff, decide_eq_false_iff_not, decide_eq_false_iff_not] at h
    exact h.2
  rw [lawSum, if_neg h2]
theorem getD_map_lt {α β : Type} {l : List α} {f : α → β} {i : Nat} {a : α} {b : β} (h : i < l.length) : (l.map f).getD i b = f (l.getD i a) := by
  rw [List.getD_eq_getElem?_getD, List.getD_eq_getElem?_getD, List.getElem?_map, List.getElem?_eq_getElem h]; rfl
theorem leaf_enc (s : Int) (b : PyData) : ((leafL s).map encS).getD (s / 5 % 10).toNat b = encS (leaf s) := by
  unfold leaf
  exact getD_map_lt (by show _ < 10; omega)

theorem drawMany_at (a : Int) : L2.atI (([a / 7 % 4, 1 + a / 7 % 3, a / 7 % 9] : List Int).map PyData.int) (a / 11 % 3) = some (.int (drawMany a)) := by
  refine (atI_getD (n := 3) rfl (by omega) (by omega) .none).trans (congrArg some ?_)
  exact getD_map_lt (by show _ < 3; omega)
theorem drawDeep_at (a : Int) : L2.atI (([a / 7 % 3, 6] : List Int).map PyData.int) (if decide (a / 13 % 9 = 0) = true then 1 else 0) = some (.int ((drawDeep a).toNat : Nat)) := by
  have h := drawDeep_le a
  have e : (((drawDeep a).toNat : Nat) : Int) = drawDeep a := by omega
  rw [e]
  unfold drawDeep
  by_cases c : a / 13 % 9 = 0
  · rw [if_pos (decide_eq_true c), if_pos c]; rfl
  · rw [if_neg (by simp [c]), if_neg c]; rfl
theorem drawName_at (a : Int) : L2.atI (drawNames.map PyData.str) (a / 11 % 4) = some (.str (drawNames.getD (a / 11 % 4).toNat "a")) := by
  refine (atI_getD (n := 4) rfl (by omega) (by omega) .none).trans (congrArg some ?_)
  exact getD_map_lt (by show _ < 4; omega)
theorem drawRow_set {a : Int} {i : Nat} (h : decide (0 < lawPick (lawSeed a (20 + i)) 3) = true) : drawRow a i = .set (drawNames.getD (lawSeed a (20 + i) / 11 % 4).toNat "a") (lawSum (drawDeep (lawSeed a (20 + i))).toNat (lawSeed (lawSeed a (20 + i)) 1)) := by
  have h' : lawPick (lawSeed a (20 + i)) 3 > 0 := of_decide_eq_true h
  unfold drawRow; exact if_pos h'
theorem drawRow_shw {a : Int} {i : Nat} (h : decide (0 < lawPick (lawSeed a (20 + i)) 3) = false) : drawRow a i = .shw (lawSum (drawDeep (lawSeed a (20 + i))).toNat (lawSeed (lawSeed a (20 + i)) 1)) := by
  have h' : ¬ lawPick (lawSeed a (20 + i)) 3 > 0 := of_decide_eq_false h
  unfold drawRow; exact if_neg h'
theorem rows_snoc (a : Int) (i : Nat) : ((List.range (i + 1)).map (drawRow a)).map encR = ((List.range i).map (drawRow a)).map encR ++ [encR (drawRow a i)] := by
  rw [List.range_succ, List.map_append, List.map_append]; rfl
end Y
set_option Elab.async false
set_option linter.all false
set_option maxRecDepth 100000
set_option maxHeartbeats 4000000
namespace Y
open PySem L2 Evl
section
variable {K : PySem.W.Frag} {H H' : Hp} {σ : L2.St} {te ta tb tl : TE} {tq : TA} {ds es : List PyData} {v : V} {d : PyData} {D : Ends} {tz tu : TS} {b : Bool} {t : TT}
theorem d_neg {i : Int} (h : EvD K ta σ H (.int i)) : EvD K (tUn (rU fun i => .int (-i)) ta) σ H (.int (-i)) := fun H1 e Q q => h H1 e _ fun v H2 e2 p => by cases p; exact ⟨i, rfl, q _ H2 e2 (.int _)⟩
/-- for x in a tuple, a list: what holds between the turns; H1: the heap at the first turn -/
theorem q_forT {j : Nat} (h : EvD K tl σ H (.tuple ds)) (Pv : Hp → Nat → L2.St → Hp → Prop) (h0 : ∀ H1, Ex H H1 → Pv H1 0 σ H1)
    (hs : ∀ H1 i d v σ' H', Ex H H1 → Ex H1 H' → ds[i]? = some d → Pv H1 i σ' H' → Dp K H' v d → tu { D with nx := fun σ2 H2 => Ex H1 H2 ∧ Pv H1 (i + 1) σ2 H2, ct := fun σ2 H2 => Ex H1 H2 ∧ Pv H1 (i + 1) σ2 H2, bk := tz D } (σ'.set j (some v)) H')
    (hd : ∀ H1 σ' H', Ex H H1 → Ex H1 H' → Pv H1 ds.length σ' H' → tz D σ' H') : tSeq (tFor (iTup K tl) (gName j) tu) tz D σ H :=
  h H (Ex.refl H) _ fun w H1 e p => by
    cases p with
    | @tup a xs _ hx hsx =>
      have lx : xs.length = ds.length := dp_len hsx
      refine ⟨a, rfl, ⟨xs, hx⟩, for_tup (D := { D with nx := tz D }) (xs := xs) (fun i σ' H' => Ex H1 H' ∧ Pv H1 i σ' H') ⟨Ex.refl _, h0 H1 e⟩ (fun i σ' H' _ q => ex_t q.1 hx) (fun i x σ' H' hi q => ?_) (fun σ' H' q => hd H1 σ' H' e q.1 (lx ▸ q.2))⟩
      obtain ⟨d, hd1, pd⟩ := dp_at' hsx hi
      exact hs H1 i d x σ' H' e q.1 hd1 q.2 (dpx q.1 _ _ pd)
theorem q_forL {j : Nat} (h : EvD K tl σ H (.list ds)) (Pv : Hp → Nat → L2.St → Hp → Prop) (h0 : ∀ H1, Ex H H1 → Pv H1 0 σ H1)
    (hs : ∀ H1 i d v σ' H', Ex H H1 → Ex H1 H' → ds[i]? = some d → Pv H1 i σ' H' → Dp K H' v d → tu { D with nx := fun σ2 H2 => Ex H1 H2 ∧ Pv H1 (i + 1) σ2 H2, ct := fun σ2 H2 => Ex H1 H2 ∧ Pv H1 (i + 1) σ2 H2, bk := tz D } (σ'.set j (some v)) H')
    (hd : ∀ H1 σ' H', Ex H H1 → Ex H1 H' → Pv H1 ds.length σ' H' → tz D σ' H') : tSeq (tFor (iList K tl) (gName j) tu) tz D σ H :=
  h H (Ex.refl H) _ fun w H1 e p => by
    cases p with
    | @lst a xs _ hx hsx =>
      have lx : xs.length = ds.length := dp_len hsx
      refine ⟨a, rfl, ⟨xs, hx⟩, for_list (D := { D with nx := tz D }) (xs := xs) (fun i σ' H' => Ex H1 H' ∧ Pv H1 i σ' H') ⟨Ex.refl _, h0 H1 e⟩ (fun i σ' H' _ q => ex_l q.1 hx) (fun i x σ' H' hi q => ?_) (fun σ' H' q => hd H1 σ' H' e q.1 (lx ▸ q.2))⟩
      obtain ⟨d, hd1, pd⟩ := dp_at' hsx hi
      exact hs H1 i d x σ' H' e q.1 hd1 q.2 (dpx q.1 _ _ pd)
end
end Y
namespace Y
open PySem L2 Evl
section
variable {K : PySem.W.Frag} {H H' : Hp} {σ : L2.St} {te ta tb tl : TE} {tq : TA} {ds es : List PyData} {v : V} {d : PyData} {D : Ends} {tz tu : TS} {b c : Bool} {t : TT}
theorem d_isBl (ha : EvD K ta σ H (.bool b)) (hb : EvD K tb σ H (.bool c)) : EvD K (tOp rIsB ta tb) σ H (.bool (decide (b = c))) :=
  d_op ha hb fun v w H1 _ p p' Q q => by cases p; cases p'; exact ⟨b, c, rfl, rfl, q _ H1 (Ex.refl H1) (.bl _)⟩
theorem d_notBl (ha : EvD K ta σ H (.bool b)) (hb : EvD K tb σ H (.bool c)) : EvD K (tOp rNotB ta tb) σ H (.bool (!decide (b = c))) :=
  d_op ha hb fun v w H1 _ p p' Q q => by cases p; cases p'; exact ⟨b, c, rfl, rfl, q _ H1 (Ex.refl H1) (.bl _)⟩
theorem d_neBl (ha : EvD K ta σ H (.bool b)) (hb : EvD K tb σ H (.bool c)) : EvD K (tOp rNe ta tb) σ H (.bool (!decide (b = c))) :=
  d_op ha hb fun v w H1 _ p p' Q q => by
    cases p; cases p'
    refine ⟨rfl, q _ H1 (Ex.refl H1) ?_⟩
    have e : decide (V.bl b = V.bl c) = decide (b = c) := by cases b <;> cases c <;> rfl
    rw [e]; exact .bl _
/-- list(t), list(xs) -/
theorem d_listT (h : EvD K ta σ H (.tuple ds)) : EvD K (tCB (fun xs H Q => ∃ p ys, xs = [V.ref p] ∧ (SqL K H p ys ∨ SqT K H p ys) ∧ ∀ l, H l = none → Q (.ref l) (upd H l (.lst ys))) (tCons ta tNil)) σ H (.list ds) := fun H1 e Q q =>
  h H1 e _ fun v H2 e2 p => by
    cases p with
    | tup h hs => exact ⟨_, _, rfl, .inr h, fun l hl => q _ _ (e2.trans (Ex.new hl)) (.lst (sq_of upd_same) (dpxA (Ex.new hl) _ _ hs))⟩
theorem d_listL (h : EvD K ta σ H (.list ds)) : EvD K (tCB (fun xs H Q => ∃ p ys, xs = [V.ref p] ∧ (SqL K H p ys ∨ SqT K H p ys) ∧ ∀ l, H l = none → Q (.ref l) (upd H l (.lst ys))) (tCons ta tNil)) σ H (.list ds) := fun H1 e Q q =>
  h H1 e _ fun v H2 e2 p => by
    cases p with
    | lst h hs => exact ⟨_, _, rfl, .inl h, fun l hl => q _ _ (e2.trans (Ex.new hl)) (.lst (sq_of upd_same) (dpxA (Ex.new hl) _ _ hs))⟩
theorem dp_rep {vs : List V} (h : DpAll K H vs ds) : ∀ n : Nat, DpAll K H (List.replicate n vs).flatten (List.replicate n ds).flatten
  | 0 => .nil
  | n + 1 => by rw [List.replicate_succ, List.replicate_succ, List.flatten_cons, List.flatten_cons]; exact dp_app h (dp_rep h n)
/-- t * n -/
theorem d_repT {n : Int} (ha : EvD K ta σ H (.tuple ds)) (hb : EvD K tb σ H (.int n)) (h0 : ds ≠ []) (h1 : 2 ≤ n ∧ n ≤ 1000) (h2 : ds.length ≤ 1000) : EvD K (tOp (rRepT K) ta tb) σ H (.tuple (List.replicate n.toNat ds).flatten) :=
  d_op ha hb fun v w H1 _ p p' Q q => by
    cases p' with
    | int =>
      cases p with
      | tup h hs =>
        exact ⟨_, _, _, rfl, rfl, h, (by rintro rfl; cases hs; exact h0 rfl), h1.1, h1.2, (by rw [dp_len hs]; exact h2), fun p hp => q _ _ (Ex.new hp) (.tup (st_of upd_same) (dpxA (Ex.new hp) _ _ (dp_rep hs _)))⟩
/-- x[:i], x[i:] of a tuple, i within -/
theorem cut_take {n : Nat} (h : n ≤ ds.length) : cutD ds none (some (n : Int)) = ds.take n := by
  unfold cutD
  rw [HT.sIx_none, HT.sIx_nat, Nat.min_eq_left h]; simp
theorem cut_drop {n : Nat} (h : n ≤ ds.length) : cutD ds (some (n : Int)) none = ds.drop n := by
  unfold cutD
  rw [HT.sIx_none, HT.sIx_nat, Nat.min_eq_left h, List.take_of_length_le (by rw [List.length_drop]; exact Nat.le_refl _)]
theorem d_take {n : Nat} (ha : EvD K ta σ H (.tuple ds)) (hb : EvD K tb σ H (.int n)) (h : n ≤ ds.length) : EvD K (tSl (rSlA K) ta tNoPart (tPart tb)) σ H (.tuple (ds.take n)) := (d_slT ha o_none (o_some hb)).is (by rw [cut_take h])
theorem d_drop {n : Nat} (ha : EvD K ta σ H (.tuple ds)) (hb : EvD K tb σ H (.int n)) (h : n ≤ ds.length) : EvD K (tSl (rSlA K) ta (tPart tb) tNoPart) σ H (.tuple (ds.drop n)) := (d_slT ha (o_some hb) o_none).is (by rw [cut_drop h])
/-- x += n -/
theorem s_augI {i : Nat} {f : Int → Int → Int} {x y : Int} (hx : σ[i]? = some (some (.int x))) (h : EvD K te σ H (.int y)) (k : ∀ H1, Ex H H1 → D.nx (σ.set i (some (.int (f x y)))) H1) : tAug i te (ipI f) D σ H :=
  ⟨_, hx, h H (Ex.refl H) _ fun v H1 e p => by cases p; exact ⟨x, y, rfl, rfl, k H1 e⟩⟩
end
end Y
namespace Y
open PySem L2 Evl
theorem s_dropS {K : PySem.W.Frag} {σ : L2.St} {H : Hp} {tq : TA} {sp : Sp} {E : L2.St → XK} {D : Ends} {ds : List PyData} (h : EvDs K tq σ H ds) (k : ∀ vs H1, Ex H H1 → DpAll K H1 vs ds → sp vs H1 (fun _ H2 => D.nx σ H2) (E σ)) : tDrop (tCallS sp E tq) D σ H :=
  h H (Ex.refl H) _ fun vs H1 e ps => k vs H1 e ps
end Y
set_option Elab.async false
set_option linter.all false
set_option maxRecDepth 100000
set_option maxHeartbeats 3200000
namespace Y
open PySem PySem.Spec PyProof.Rows L2 PySem.Froz
/-! ## sets of texts -/
/-- the table of a set just made -/
abbrev newT (w : World) : SetTable := .fresh 0 0 (!w.params.followText "set-order")
abbrev newD (w : World) : SD := (#[], 0, newT w)
/-- the set at a holds the texts l, each once; its table can be walked -/
def TxS (P : Program) (w : World) (h : Heap) (a : Addr) (l : List Str) : Prop :=
  ∃ D : SD, h.get? a = some (sObj "set" D) ∧ TxOk P w D l ∧ l.Nodup ∧ Ris D.2.2.place.toList ∧ (w.params.followText "set-order" = true ∨ D.2.2.led = true)
section
variable {P : Program} {w : World} {A : Around} {E : Value → Shared → Prop} {s : Shared}
theorem TxS.moved {h h' : Heap} {a : Addr} {l : List Str} (T : TxS P w h a l) (k : ∀ o, h.get? a = some o → h'.get? a = some o) : TxS P w h' a l := by
  obtain ⟨D, ho, r⟩ := T
  exact ⟨D, k _ ho, r⟩
theorem TxS.new {h : Heap} {a : Addr} (ho : h.get? a = some (sObj "set" (newD w))) : TxS P w h a [] :=
  ⟨newD w, ho, TxOk.nil rfl, List.nodup_nil, List.Pairwise.nil, by
    show _ ∨ (!w.params.followText "set-order") = true
    cases w.params.followText "set-order" <;> simp⟩
theorem tail_ris {ep : Nat} {es : Array (Int × Value)} {t : SetTable} {b : Bool} (r : Ris t.place.toList) : Ris (tailTx ep es t b).2.2.place.toList := by
  unfold tailTx
  split
  · exact relayAll_ris t es _
  · exact r
theorem tail_led (ep : Nat) (es : Array (Int × Value)) (t : SetTable) (b : Bool) : (tailTx ep es t b).2.2.led = t.led := by
  unfold tailTx
  split
  · exact relayAll_led t es _
  · rfl
theorem add_ris {hh : Int} {v : Value} {D : SD} (r : Ris D.2.2.place.toList) : Ris (addTx hh v D).2.2.place.toList := by
  have q := layNew_ris D.2.2 D.1 hh v r
  unfold addTx
  apply tail_ris
  split
  · exact q
  · exact q
theorem add_led (hh : Int) (v : Value) (D : SD) : (addTx hh v D).2.2.led = D.2.2.led := by
  have q := layNew_led D.2.2 D.1 hh v
  unfold addTx
  rw [tail_led]
  split
  · exact q
  · exact q
/-- a text that is in the set is put in once more -/
theorem had_x {a : Addr} {D : SD} {l : List Str} {z : Str} {u : Tok} {Q : Bool → Shared → Prop} (ho : s.heap.get? a = some (sObj "set" D)) (F : TxOk P w D l) (hz : z ∈ l) (hb : l.length < scanBound)
    (q : Q false s) : wpAny (model P w) A (setAddHashed a (.str z u) (hashStr w z)) Q E s := by
  obtain ⟨es, ep, t⟩ := D
  have e1 : (sObj "set" (es, ep, t)).data = .set es ep t := rfl
  have e2 : t.fits es.size = true := F.fit
  have e3 : ElemsOf (strKind P w) es.toList := F.el
  have e4 : es.size < scanBound := by rw [show es.size = l.length from F.sz]; exact hb
  have e5 : (strKind P w).is z (.str z u) = true := is_str z u
  obtain ⟨x, hx, hxz⟩ := (F.mem z).mp hz
  unfold setAddHashed setAddHashedIn
  refine wpAny_holding (wpAny_bind (wpAny_setState_of ho e1 e2 ?_))
  dsimp only
  rw [byScan_of rfl e4 e3, if_pos rfl]
  unfold setAddByScan
  refine wpAny_bind (wpAny_bind (wpAny_rule (wpAny_bind (wpAny_setScan_of (knd := strKind P w) (k := z) e5 ho e1 e2 e3 ?_))))
  cases hf : List.findIdx? (fun e => (strKind P w).is z e.2) es.toList with
  | none =>
    have c := List.findIdx?_eq_none_iff.mp hf x hx
    rw [hxz] at c
    cases c
  | some j => exact wpAny_pure (wpAny_pure q)
/-- a text is put into the set -/
theorem txs_add {a : Addr} {l : List Str} {z : Str} {u : Tok} {Q : Bool → Shared → Prop} (T : TxS P w s.heap a l) (hb : l.length + 1 < scanBound)
    (q : ∀ h' b, (∀ c, c ≠ a → h'.get? c = s.heap.get? c) → s.heap.objs.size ≤ h'.objs.size → TxS P w h' a (if z ∈ l then l else z :: l) → Q b { s with heap := h' }) :
    wpAny (model P w) A (setAddHashed a (.str z u) (hashStr w z)) Q E s := by
  obtain ⟨D, ho, F, nd, r, ld⟩ := id T
  by_cases hz : z ∈ l
  · rw [if_pos hz] at q
    exact had_x ho F hz (by omega) (q s.heap false (fun _ _ => rfl) (Nat.le_refl _) T)
  · rw [if_neg hz] at q
    refine add_x ho F hz hb (q _ true (fun c hc => Heap.get?_update_other _ _ (Ne.symm hc)) (Nat.le_of_eq (Heap.size_update ..).symm) ?_)
    exact ⟨_, get_upd _ ho rfl, add_ok u F, List.nodup_cons.mpr ⟨hz, nd⟩, add_ris r, by rw [add_led]; exact ld⟩
/-- the texts of a list, each once, the last first -/
def onceR : List Str → List Str → List Str
  | [], l => l
  | z :: r, l => onceR r (if z ∈ l then l else z :: l)
theorem onceR_mem : ∀ {xs l : List Str} {y : Str}, y ∈ onceR xs l ↔ y ∈ xs ∨ y ∈ l
  | [], l, y => by simp [onceR]
  | z :: r, l, y => by
    rw [onceR, onceR_mem]
    by_cases hz : z ∈ l
    · rw [if_pos hz, List.mem_cons]
      exact ⟨fun h => h.elim (fun q => .inl (.inr q)) .inr, fun h => h.elim (fun q => q.elim (fun e => .inr (e ▸ hz)) .inl) .inr⟩
    · rw [if_neg hz, List.mem_cons, List.mem_cons]
      exact ⟨fun h => h.elim (fun q => .inl (.inr q)) fun q => q.elim (fun e => .inl (.inl e)) .inr, fun h => h.elim (fun q => q.elim (fun e => .inr (.inl e)) .inl) fun q => .inr (.inr q)⟩
/-- the loop that puts a walked thing's texts in -/
theorem txs_fill {it : Addr} {fp wr : List Addr} {G : Array GenState → Array GenState → Prop} {n : Nat} {Pv : Nat → Value → Prop} {St : Nat → Shared → Prop} {R : Result → Shared → Prop}
    (W : WalksS P w A.in1 it fp wr G n Pv St) (a : Addr) (ha : a ∉ fp) (xs : List Str) (hn : n = xs.length) (hv : ∀ i v, Pv i v → ∃ z t, xs[i]? = some z ∧ v = .str z t) :
    ∀ (m i : Nat) (l : List Str) (s : Shared), n - i = m → i ≤ n → St i s → l.length + (n - i) < scanBound → TxS P w s.heap a l →
      (∀ s', Moved (a :: wr) G s s' → TxS P w s'.heap a (onceR (xs.drop i) l) → R (.ok (.ret .none)) s') →
      codeAny (model P w) A (.builtin "set.update.loop" ⟨[.ref a, .ref it], []⟩) R s := by
  have aw : a ∉ wr := fun z => ha (W.sub _ z)
  have up : ∀ b ∈ wr, b ∈ a :: wr := fun b z => List.mem_cons_of_mem _ z
  intro m
  induction m with
  | zero =>
    intro i l s hm hi hst _ T q
    refine codeAny_builtin F.entry_set_update_loop ?_
    rw [Around.under_plainId F.plain_set_update_loop _]
    refine wpAny_bind (W.done s _ _ (by rw [show n = i by omega]; exact hst) fun s1 mv => ?_)
    have e : xs.drop i = [] := List.drop_eq_nil_of_le (by omega)
    rw [e] at q
    exact wpAny_pure (q s1 (mv.mono up) (T.moved fun o g => mv.heap a o aw g))
  | succ m ih =>
    intro i l s hm hi hst hb T q
    have lt : i < n := by omega
    refine codeAny_builtin F.entry_set_update_loop ?_
    rw [Around.under_plainId F.plain_set_update_loop _]
    refine wpAny_bind (W.item i s _ _ lt hst fun v s1 hp st1 mv => ?_)
    obtain ⟨z, t, hz, rfl⟩ := hv i v hp
    have T1 := T.moved fun o g => mv.heap a o aw g
    refine wpAny_bind (wpAny_holding ?_)
    unfold setAdd
    refine wpAny_holding (wpAny_bind ((strKind P w).pyHash (k := z) (is_str z t) ?_))
    refine txs_add (s := { s1 with toks := s1.toks + 1 }) T1 (by omega) fun h' b kp le T2 => ?_
    have ed : xs.drop i = z :: xs.drop (i + 1) := by
      have hl := (List.getElem?_eq_some_iff.mp hz)
      rw [List.drop_eq_getElem_cons hl.1, hl.2]
    rw [ed, onceR] at q
    have lb : (if z ∈ l then l else z :: l).length ≤ l.length + 1 := by
      split
      · omega
      · exact Nat.le_refl _
    refine wpAny_pure ⟨plainId_quiet F.plain_set_update_loop _, ih (i + 1) _ _ (by omega) lt (W.frame _ s1 _ _ st1 (Nat.le_succ _) fun c hc o g => ?_) (by omega) T2 fun s2 mv2 T3 => ?_⟩
    · rw [kp c (fun e => ha (e ▸ hc))]
      exact g
    · refine q s2 (Moved.trans W.gtrans ((mv.mono up).then_heap (Nat.le_succ _) fun c o hc g => ?_) mv2) T3
      rw [kp c (fun e => hc (e ▸ List.mem_cons_self))]
      exact g
/-- the heap with a set just made -/
abbrev hpS (w : World) (h : Heap) : Heap := h.push { cls := .type "set", dict := none, data := .set #[] 0 (newT w) }
theorem hpS_at (w : World) (h : Heap) : (hpS w h).get? h.objs.size = some { cls := .type "set", dict := none, data := .set #[] 0 (newT w) } := Heap.get?_push_size _ rfl
/-- set(xs) of a list of texts -/
theorem txs_call {l : Addr} {items : Array Value} {xs : List Str} {Q : Value → Shared → Prop} (hh : A.handled = none) (hl : s.heap.IsList l items) (hx : StrsAre items.toList xs) (hb : xs.length + 1 < scanBound)
    (q : ∀ (h' : Heap) (tk : Nat), TxS P w h' s.heap.objs.size (onceR xs []) → (∀ b o, s.heap.get? b = some o → h'.get? b = some o) → Q (.ref s.heap.objs.size) { s with heap := h', toks := tk }) :
    wpAny (model P w) A (call (.type "set") [.ref l]) Q E s := by
  have sz : items.size = xs.length := by rw [← hx.len_eq, Array.length_toList]
  obtain ⟨mc, mt, mro⟩ := F.called_set.mro
  have m1 := F.called_set.made
  have m2 := F.called_set.sub
  refine wpAny_call (codeAny_of_tree (show wpAny _ _ (callAny (.type "set") _) _ _ _ from ?_))
  refine wpAny_pure ⟨Code.quiet_builtin _ (by decide +kernel), codeAny_builtin F.entry_type_call ?_⟩
  rw [Around.under_plain (weight_type_call_type "set" [.ref l] []) rfl]
  have m3 := F.called_set.notType
  have m4 := F.called_set.canCreate
  have m5 := F.typeCall_set_1 (.ref l)
  repeat (any_goals (first | assumption | wp_step))
  refine codeAny_mono (code_set_led1 (.ref l) (E := E) (Q₁ := fun v s1 => v = .ref s.heap.objs.size ∧ s1 = { s with heap := hpS w s.heap }) ⟨rfl, rfl⟩) fun r s1 hr => ?_
  rcases r with er | fl
  · exact hr
  cases fl with
  | ret v =>
    obtain ⟨rfl, rfl⟩ := hr
    have aS := hpS_at w s.heap
    have tS : Shared.TypeIs { s with heap := hpS w s.heap } (.ref s.heap.objs.size) "set" := ⟨_, aS, rfl⟩
    have i1 := F.called_set.init.lookup
    have i2 := F.called_set.init.bind (.ref s.heap.objs.size)
    repeat (any_goals (first | assumption | wp_step))
    refine codeAny_mono (codeAny_call_builtin (R := wants (fun r s2 => r = .none ∧ ∃ h' tk, s2 = { s with heap := h', toks := tk } ∧ TxS P w h' s.heap.objs.size (onceR xs []) ∧ (∀ b o, s.heap.get? b = some o → h'.get? b = some o)) E)
      F.called_set.init.plain F.entry_set_init (check_set_init_1 tS ?_)) fun r s2 hr => ?_
    · obtain ⟨⟨ocl, odi, oda, osl⟩, ho, hc, nl, hd⟩ := hl
      dsimp only at hc hd
      subst hc hd
      have ho1 : (hpS w s.heap).get? l = some { cls := .type "list", dict := odi, data := .seq items nl, slots := osl } := Heap.get?_push_of_some _ ho
      have u1 := F.sub_list_set
      have u2 := F.sub_list_frozenset
      have u3 : (Value.type "list" == Value.type "dict") = false := by decide
      have hl1 : (hpS w s.heap).IsList l items := ⟨_, ho1, rfl, nl, rfl⟩
      unfold Builtin.«set.__init__» noKeywords Builtin.Frozenset.updateFrom
      generalize hPI : pyIter = PI
      wp_walk
      subst hPI
      refine wpAny_pyIter_list hl1 (wpAny_bind (wpAny_runValue ?_))
      have lt : l < s.heap.objs.size := Heap.lt_size ho
      have z1 : (hpS w s.heap).objs.size = s.heap.objs.size + 1 := Heap.size_push ..
      have ne : l ≠ (hpS w s.heap).objs.size := by rw [z1]; exact Nat.ne_of_lt (Nat.lt_succ_of_lt lt)
      have hf : s.heap.objs.size ∉ [(hpS w s.heap).objs.size, l] := by
        rw [z1, List.mem_cons, List.mem_singleton]
        exact fun z => z.elim (fun e => absurd e (Nat.ne_of_lt (Nat.lt_succ_self _))) fun e => absurd e.symm (Nat.ne_of_lt lt)
      refine txs_fill ((Walks.list (by simp [hh]) _ l ne items).toS) s.heap.objs.size hf xs sz (fun i v hv => ?_) (items.size - 0) 0 [] _ (by omega) (Nat.zero_le _)
        ⟨⟨_, Heap.get?_push_size _ rfl, rfl, rfl⟩, (hl1.push _)⟩ (by rw [sz]; simp only [List.length_nil]; omega) (TxS.new (Heap.get?_push_of_some _ aS)) fun s3 mv T => ?_
      · have hi : i < xs.length := by rw [← sz]; exact (Array.getElem?_eq_some_iff.mp hv).1
        obtain ⟨t, e⟩ := SS.strs_at hx i v (by rw [Array.getElem?_toList]; exact hv)
        refine ⟨xs[i], t, List.getElem?_eq_getElem hi, ?_⟩
        rw [e, List.getD_eq_getElem?_getD, List.getElem?_eq_getElem hi] <;> rfl
      · obtain ⟨h3, g3, d3, k3, o3⟩ := s3
        have x1 : g3 = s.gens := mv.gens
        have x2 : d3 = s.drawn := mv.drawn
        have x3 : o3 = s.os := mv.os
        subst x1 x2 x3
        refine wpAny_pure (show wpAny _ _ (ret Value.none) _ _ _ from wpAny_pure ⟨rfl, h3, k3, rfl, T, fun b o e => ?_⟩)
        have lb : b < s.heap.objs.size := Heap.lt_size e
        refine mv.heap b o ?_ (Heap.get?_push_of_some _ (Heap.get?_push_of_some _ e))
        rw [z1, List.mem_cons, List.mem_singleton]
        exact fun z => z.elim (fun e => absurd e (Nat.ne_of_lt lb)) fun e => absurd e (Nat.ne_of_lt (Nat.lt_succ_of_lt lb))
    · rcases r with er | fl
      · exact hr
      cases fl with
      | ret v =>
        obtain ⟨rfl, h', tk, rfl, T, kp⟩ := hr
        repeat (any_goals (first | assumption | wp_step))
        exact q _ _ T kp
      | _ => exact hr.elim
  | _ => exact hr.elim
end
end Y
set_option Elab.async false
set_option linter.all false
set_option maxRecDepth 100000
set_option maxHeartbeats 3200000
namespace Y
open PySem PySem.Spec PyProof.Rows L2 PySem.Froz
section
variable {P : Program} {w : World} {A : Around} {E : Value → Shared → Prop} {s : Shared}
/-- sorted of a set of texts -/
theorem perm_once : ∀ (l B : List Str), l.Nodup → (∀ k ∈ l, k ∈ B) → B.length = l.length → B.Perm l
  | [], B, _, _, e => by rw [List.eq_nil_of_length_eq_zero e]
  | z :: r, B, nd, m, e => by
    have hz := m z List.mem_cons_self
    have n1 := List.nodup_cons.mp nd
    refine (List.perm_cons_erase hz).trans (.cons z (perm_once r _ n1.2 (fun k hk => (List.mem_erase_of_ne fun (q : k = z) => n1.1 (q ▸ hk)).mpr (m k (List.mem_cons_of_mem _ hk))) ?_))
    rw [List.length_erase_of_mem hz, e] <;> rfl
theorem strs_of : ∀ (l : List Value), (∀ v ∈ l, ∃ z t, v = Value.str z t) → StrsAre l (l.map strOf)
  | [], _ => .nil
  | v :: l, h => by
    obtain ⟨z, t, rfl⟩ := h v List.mem_cons_self
    exact .cons z t (strs_of l fun u hu => h u (List.mem_cons_of_mem _ hu))
theorem txs_sorted {a : Addr} {l : List Str} {Q : Value → Shared → Prop} (T : TxS P w s.heap a l) (hh : A.handled = none) (hb : l.length < scanBound)
    (q : ∀ s' p (out : Array Value) (c : Nat) (zs : List Str), (∀ b o, s.heap.get? b = some o → s'.heap.get? b = some o) → s'.gens = s.gens → s'.os = s.os → s.heap.objs.size ≤ p →
      s'.heap.get? p = some (seqObj "list" out c) → StrsAre out.toList zs → sortedS zs = true → zs.Perm l → Q (.ref p) s') :
    wpAny (model P w) A (call (.builtin "sorted") [.ref a]) Q E s := by
  obtain ⟨⟨es, ep, t⟩, ho, F, nd, r, ld⟩ := T
  have e0 : es.size = l.length := F.sz
  refine Calls.call_function_entry kind_sorted plain_sorted entry_sorted (args_sorted1 _) ?_
  unfold Builtin.«sorted»
  refine wpAny_bind (m := checkCount "sorted" 1 1 _) (wpAny_pure ?_)
  refine wpAny_bind (collect_set (A := A.in1) (P := P) hh ⟨_, ho, rfl, rfl⟩ F.fit (by rw [e0]; exact hb) r ld fun s1 vs k1 hz g1 o1 pm => ?_)
  have e1 : vs.length = l.length := by rw [pm.length_eq, List.length_map, Array.length_toList]; exact e0
  have hI : StrsAre vs (vs.map strOf) := strs_of vs fun v hv => by
    obtain ⟨e, he, rfl⟩ := List.mem_map.mp (pm.mem_iff.mp hv)
    obtain ⟨⟨k, hk, _⟩, _⟩ := F.el e he
    have hk' : Value.isStrOf k e.2 = true := hk
    cases hv : e.2 with
    | str z t => exact ⟨z, t, rfl⟩
    | _ => rw [hv] at hk'; cases hk'
  have pl : (vs.map strOf).Perm l := by
    refine perm_once l _ nd (fun k hk => ?_) (by rw [List.length_map]; exact e1)
    obtain ⟨e, he, hi⟩ := (F.mem k).mp hk
    have hi' : Value.isStrOf k e.2 = true := hi
    refine List.mem_map.mpr ⟨e.2, pm.mem_iff.mpr (List.mem_map.mpr ⟨e, he, rfl⟩), ?_⟩
    cases hv : e.2 with
    | str z t =>
      rw [hv] at hi'
      exact eq_of_beq hi'
    | _ => rw [hv] at hi'; cases hi'
  have hL : vs.length ≤ sizeLine := by rw [e1]; exact fits_of_scanBound hb
  refine wpAny_bind (wpAny_newList ?_ hL)
  have aL : (s1.heap.push (seqObj "list" vs.toArray 0)).get? s1.heap.objs.size = some (seqObj "list" vs.toArray 0) := Heap.get?_push_size _ rfl
  refine wpAny_bind (wpAny_holding (wpAny_call_entry slot_list_sort ⟨_, aL, rfl⟩ entry_list_sort (list_sort_treeKAny strKind_oneLt aL hI.keysOf (fun v₁ v₂ rest e => keyKind_strs (by rw [← e]; exact hI)) hL fun st' hp hs => ?_) (args_list_sort _)))
  obtain ⟨zs, a1, a2, a3⟩ := sorted_out_str hI hp hs
  obtain ⟨c, hc⟩ := sortedHeap_at (vs := vs) (out := (arrOf st').map (·.2)) aL
  refine ⟨_, rfl, wpAny_pure ⟨_, rfl, q _ s1.heap.objs.size _ c zs (fun b u e => ?_) g1 o1 hz hc a1 a3 (a2.trans pl)⟩⟩
  have y := k1 b u e
  have lt := Heap.lt_size y
  show (sortedHeap (s1.heap.push (seqObj "list" vs.toArray 0)) s1.heap.objs.size vs _).get? b = some u
  rw [sortedHeap_old (Nat.ne_of_lt lt) (by rw [size_push']; exact Nat.lt_succ_of_lt lt)]
  exact Heap.get?_push_of_some _ y
end
end Y
set_option Elab.async false
set_option linter.all false
set_option maxRecDepth 100000
set_option maxHeartbeats 3200000
namespace Y
open PySem PySem.Spec PyProof.Rows L2 PySem.Froz Evl
/-! ## texts in order, each once -/
theorem leS_trans {a b c : Str} (h : leS a b = true) (k : leS b c = true) : leS a c = true := by
  simp only [leS, Bool.not_eq_true', decide_eq_false_iff_not] at *
  exact List.le_trans (α := Nat) h k
theorem leS_total (a b : Str) : (leS a b || leS b a) = true := by
  simp only [leS, Bool.or_eq_true, Bool.not_eq_true', decide_eq_false_iff_not]
  exact List.le_total (α := Nat) a.cps.toList b.cps.toList
theorem leS_anti {a b : Str} (h : leS a b = true) (k : leS b a = true) : a = b := by
  simp only [leS, Bool.not_eq_true', decide_eq_false_iff_not] at *
  have e := List.le_antisymm (α := Nat) h k
  obtain ⟨⟨x⟩⟩ := a
  obtain ⟨⟨y⟩⟩ := b
  exact congrArg (fun z => Str.mk (Array.mk z)) e
def setS (xs : List Str) : List Str := (onceR xs []).mergeSort leS
theorem rising_pw : ∀ (l : List Str) (p : Str), risingS p l = true → (p :: l).Pairwise fun a b => leS a b = true
  | [], p, _ => List.pairwise_singleton _ _
  | x :: r, p, h => by
    have h' : (!ltCps x.cps.toList p.cps.toList && risingS x r) = true := h
    rw [Bool.and_eq_true, ltCps_eq] at h'
    have ih := rising_pw r x h'.2
    refine List.pairwise_cons.mpr ⟨fun y hy => ?_, ih⟩
    rcases List.mem_cons.mp hy with e | e
    · rw [e]; exact h'.1
    · exact leS_trans h'.1 ((List.pairwise_cons.mp ih).1 y e)
theorem sorted_is {xs zs : List Str} (h : sortedS zs = true) (p : zs.Perm (onceR xs [])) : zs = setS xs := by
  have hp : zs.Pairwise fun a b => leS a b = true := by
    cases zs with
    | nil => exact .nil
    | cons x r => exact rising_pw r x h
  exact List.Perm.eq_of_pairwise (fun a b _ _ h k => leS_anti h k) hp (List.pairwise_mergeSort (le := leS) (fun a b c => leS_trans) leS_total _) (p.trans (List.mergeSort_perm _ _).symm)
theorem onceR_len : ∀ (xs l : List Str), (onceR xs l).length ≤ xs.length + l.length
  | [], l => by simp [onceR]
  | z :: r, l => by
    rw [onceR]
    refine Nat.le_trans (onceR_len r _) ?_
    split <;> simp only [List.length_cons] <;> omega
theorem setS_len (xs : List Str) : (setS xs).length ≤ xs.length := by
  rw [setS, List.length_mergeSort]
  exact Nat.le_trans (onceR_len xs []) (by simp)
theorem setS_mem {xs : List Str} {y : Str} : y ∈ setS xs ↔ y ∈ xs := by
  rw [setS, (List.mergeSort_perm _ _).mem_iff, onceR_mem]; simp
/-! ## the rules -/
def SetT (P : Program) (w : World) (a : Addr) (l : List Str) : HO := .ext fun h => TxS P w h a l
section
variable {X : Cx}
theorem setT_new {w : World} {P : Program} {H : Hp} {h : Heap} {a : Addr} {l : List Str} (T : TxS P w h a l) : ObjOk P w H h a (SetT P w a l) := by
  have ⟨D, ho, _⟩ := T
  exact ⟨T, ⟨_, ho⟩, fun h1 h2 p k => TxS.moved p k⟩
def rSetT (P : Program) (w : World) (K : PySem.W.Frag) : List V → Hp → VK → Prop := fun vs H Q => ∃ (p : Addr) (xs : List Str), vs = [V.ref p] ∧ SqL K H p (xs.map V.str) ∧ xs.length ≤ 1000 ∧ ∀ q, H q = none → Q (.ref q) (upd H q (SetT P w q (onceR xs [])))
theorem cr_setT (hc : X.calm = true) : CallR X (.type "set") (rSetT X.prog X.w X.K) := by
  intro pins s σ H vs us Q I r h
  obtain ⟨p, xs, rfl, hq, hl, q⟩ := h
  rw [Vals.ref1 r]
  obtain ⟨its, rv, pl, hz⟩ := I.list hq
  refine txs_call (P := X.prog) (I.ok.hd hc) pl.isList (xs := xs) (by simpa using strsAre_of rv) (by unfold scanBound; omega) fun h' tk T kp => ?_
  exact ⟨.ref _, upd H s.heap.objs.size (SetT X.prog X.w s.heap.objs.size (onceR xs [])), I.laid (t' := tk) kp (Nat.le_refl _) (setT_new T), rfl, q _ (I.hok.fresh (Nat.le_refl _))⟩
def rSortT (P : Program) (w : World) : List V → Hp → VK → Prop := fun vs H Q => ∃ (a : Addr) (l : List Str), vs = [V.ref a] ∧ H a = some (SetT P w a l) ∧ l.length ≤ 1000 ∧
  ∀ (zs : List Str) (p : Addr), sortedS zs = true → zs.Perm l → H p = none → Q (.ref p) (upd H p (.lst (zs.map V.str)))
theorem cr_sortT (hc : X.calm = true) : CallR X (.builtin "sorted") (rSortT X.prog X.w) := by
  intro pins s σ H vs us Q I r h
  obtain ⟨a, l, rfl, ha, hl, q⟩ := h
  have T : TxS X.prog X.w s.heap a l := (I.hok a _ ha).1
  rw [Vals.ref1 r]
  refine txs_sorted T (I.ok.hd hc) (by unfold scanBound; omega) fun s' p out c zs k g o hp hg hi hs pm => ?_
  have hn : H p = none := I.hok.fresh hp
  have lz : (zs.map V.str).length ≤ sizeLine := sz_of (by rw [List.length_map, pm.length_eq]; omega)
  have J : Inv X pins σ (upd H p (.lst (zs.map V.str))) { s with heap := s'.heap, gens := s'.gens, drawn := s'.drawn, toks := s'.toks } :=
    I.call (ch := []) (Un.laid k hp hn) (I.hok.laid k hp ⟨lz, out.toList, c, vals_of_strs hi, hg⟩) (by rw [g]; exact I.bare) fun _ z => nomatch z
  have e : s' = { s with heap := s'.heap, gens := s'.gens, drawn := s'.drawn, toks := s'.toks } := by
    rcases s' with ⟨⟩
    rcases s with ⟨⟩
    subst o
    rfl
  rw [e]
  exact ⟨.ref p, _, J, rfl, q zs p hs pm hn⟩
end
section
variable {K : PySem.W.Frag} {ta : TE} {σ : L2.St} {H : Hp} {xs : List Str}
theorem dp_strsL : ∀ l : List Str, DpAll K H (l.map V.str) (l.map .str)
  | [] => .nil
  | s :: r => .cons (.str s) (dp_strsL r)
/-- sorted(set(xs)) -/
theorem d_sortSet {P : Program} {w : World} (h : EvD K ta σ H (.list (xs.map .str))) (hl : xs.length ≤ 1000) : EvD K (tCB (rSortT P w) (tCons (tCB (rSetT P w K) (tCons ta tNil)) tNil)) σ H (.list ((setS xs).map .str)) := fun H1 e Q q =>
  h H1 e _ fun v H2 e2 p => by
    cases p with
    | lst h hs =>
      obtain rfl := dp_strs hs
      refine ⟨_, xs, rfl, h, hl, fun a ha => ⟨a, _, rfl, upd_same, Nat.le_trans (onceR_len xs []) (by simpa using hl), fun zs p s1 s2 hp => ?_⟩⟩
      obtain rfl := sorted_is s1 s2
      exact q _ _ ((e2.trans (Ex.new ha)).trans (Ex.new hp)) (.lst (sq_of upd_same) (dp_strsL _))
end
end Y
set_option Elab.async false
set_option linter.all false
set_option maxRecDepth 100000
set_option maxHeartbeats 3200000
namespace Y
open PySem L2 Evl
/-! ## lists just made -/
def EvN (K : PySem.W.Frag) (te : TE) (σ : L2.St) (H : Hp) (ds : List PyData) : Prop := ∀ H1, Ex H H1 → ∀ Q : VK, (∀ p vs H2, H1 p = none → Ex H1 H2 → H2 p = some (.lst vs) → DpAll K H2 vs ds → Q (.ref p) H2) → te σ H1 Q
def RetN (K : PySem.W.Frag) (ds : List PyData) (H : Hp) (Q : VK) : Prop := ∀ p vs H2, H p = none → Ex H H2 → H2 p = some (.lst vs) → DpAll K H2 vs ds → Q (.ref p) H2
theorem ex_none {H H' : Hp} {p : Addr} (e : Ex H H') (h : H' p = none) : H p = none := by
  cases q : H p with
  | none => rfl
  | some o => rw [e p o q] at h; cases h
section
variable {K : PySem.W.Frag} {H H' : Hp} {σ : L2.St} {te ta tb tl : TE} {tq : TA} {ds es : List PyData} {v : V} {d : PyData} {D : Ends} {tz tu : TS} {b : Bool} {t : TT} {s : Str} {l : List Str}
theorem RetN.up (e : Ex H H') {Q : VK} (h : RetN K ds H Q) : RetN K ds H' Q := fun p vs H2 hp e2 a b => h p vs H2 (ex_none e hp) (e.trans e2) a b
theorem RetN.is {Q : VK} (h : RetN K ds H Q) (e : ds = es) : RetN K es H Q := e ▸ h
theorem EvN.lst (h : EvN K te σ H ds) : EvL K te σ H ds := fun H1 e Q q => h H1 e Q fun p vs H2 _ e2 a b => q _ H2 e2 ⟨p, vs, rfl, a, b⟩
theorem EvN.is (h : EvN K te σ H ds) (e : ds = es) : EvN K te σ H es := e ▸ h
theorem n_lst (h : EvDs K tq σ H ds) (hl : ds.length ≤ 100000) : EvN K (tLst tq) σ H ds := fun H1 e Q q =>
  h H1 e _ fun vs H2 e2 ps => ⟨sz_of (by rw [dp_len ps]; exact hl), fun p hp => q p vs _ (ex_none e2 hp) (e2.trans (Ex.new hp)) upd_same (dpxA (Ex.new hp) _ _ ps)⟩
theorem n_cat (ha : EvL K ta σ H ds) (hb : EvL K tb σ H es) (hl : ds.length + es.length ≤ 100000) : EvN K (tOp rCat ta tb) σ H (ds ++ es) := fun H1 e Q q =>
  ha H1 e _ fun v H2 e2 p => hb H2 (e.trans e2) _ fun w H3 e3 p' => by
    obtain ⟨p1, vs, rfl, hp, hs⟩ := p.up e3
    obtain ⟨p2, ws, rfl, hp2, hs2⟩ := p'
    exact ⟨p1, p2, vs, ws, rfl, rfl, hp, hp2, sz_of (by rw [dp_len hs, dp_len hs2]; exact hl), fun r hr => q r _ _ (ex_none (e2.trans e3) hr) ((e2.trans e3).trans (Ex.new hr)) upd_same (dpxA (Ex.new hr) _ _ (dp_app hs hs2))⟩
theorem s_retN (h : EvN K te σ H ds) (k : RetN K ds H D.rt) : tRet te D σ H := h H (Ex.refl H) _ fun p vs H2 hp e a b => k p vs H2 hp e a b
/-- the promise of a def that tells a list just made -/
def spN {α : Type} (K : PySem.W.Frag) (enc : α → List PyData) (pre : α → Prop) (res : α → List PyData) : Sp := fun vs H Q _ => ∃ a, DpAll K H vs (enc a) ∧ pre a ∧ RetN K (res a) H Q
theorem spN_len {α : Type} {enc : α → List PyData} {pre : α → Prop} {res : α → List PyData} {n : Nat} (h : ∀ a, (enc a).length = n) : ∀ vs H Q E, spN K enc pre res vs H Q E → vs.length = n := fun vs H Q E ⟨a, hd, _⟩ => by
  rw [dp_len hd, h]
theorem n_call {α : Type} {enc : α → List PyData} {pre : α → Prop} {res : α → List PyData} {E : XK} (a : α) (ha : EvDs K tq σ H (enc a)) (hp : pre a) : EvN K (tCall (spN K enc pre res) [] E tq) σ H (res a) := fun H1 e Q q =>
  ha H1 e _ fun vs H2 e2 ps => by
    rw [List.append_nil]
    exact ⟨a, ps, hp, fun p ws H3 hn e3 h1 h2 => q p ws H3 (ex_none e2 hn) (e2.trans e3) h1 h2⟩
/-- xs.extend(ys) -/
theorem s_ext {i : Nat} {p : Addr} {vs : List V} (hi : σ[i]? = some (some (.ref p))) (hl : H p = some (.lst vs)) (h : EvL K te σ H ds) (hz : vs.length + ds.length ≤ 100000) (k : ∀ ys H1, Ex H H1 → DpAll K H1 ys ds → D.nx σ (upd H1 p (.lst (vs ++ ys)))) :
    tDrop (tBM K "list" rExtend (tVar i) (tCons te tNil)) D σ H :=
  ⟨.ref p, hi, .inl ⟨rfl, _, SqL.of hl⟩, h H (Ex.refl H) _ fun y H1 e ⟨q, ys, ey, hq, hs⟩ => ⟨p, q, vs, ys, rfl, by rw [ey], e _ _ hl, hq, sz_of (by rw [dp_len hs]; exact hz), k ys H1 e hs⟩⟩
/-- a text not in a list of texts -/
theorem d_ninV (ha : EvD K ta σ H (.str s)) (hb : EvD K tb σ H (.list (l.map .str))) : EvD K (tOp (rIn K true) ta tb) σ H (.bool (!decide (s ∈ l))) :=
  d_op ha hb fun v w H1 _ p p' Q q => by
    cases p
    cases p' with
    | lst h hs =>
      obtain rfl := dp_strs hs
      refine ⟨_, _, rfl, .inl h, rfl, flat_strs l, q _ H1 (Ex.refl H1) ?_⟩
      rw [inV_strs]; exact .bl _
/-- for x in t, t told by tuples alone; the suite may change lists -/
theorem q_forI {j : Nat} (h : EvD K tl σ H (.tuple ds)) (im : immA ds = true) (Pv : Hp → Nat → L2.St → Hp → Prop) (h0 : ∀ H1, Ex H H1 → Pv H1 0 σ H1) (hm : ∀ H1 i σ' H', Pv H1 i σ' H' → Im H1 H')
    (hs : ∀ H1 i d v σ' H', Ex H H1 → ds[i]? = some d → Pv H1 i σ' H' → Dp K H' v d → tu { D with nx := Pv H1 (i + 1), ct := Pv H1 (i + 1), bk := tz D } (σ'.set j (some v)) H')
    (hd : ∀ H1 σ' H', Ex H H1 → Pv H1 ds.length σ' H' → tz D σ' H') : tSeq (tFor (iTup K tl) (gName j) tu) tz D σ H :=
  h H (Ex.refl H) _ fun w H1 e p => by
    cases p with
    | @tup a xs _ hx hsx =>
      have lx : xs.length = ds.length := dp_len hsx
      refine ⟨a, rfl, ⟨xs, hx⟩, for_tup (D := { D with nx := tz D }) (xs := xs) (fun i σ' H' => Pv H1 i σ' H') (h0 H1 e) (fun i σ' H' _ q => hx.elim (fun z => .inl (hm _ _ _ _ q _ _ z)) .inr) (fun i x σ' H' hi q => ?_) (fun σ' H' q => hd H1 σ' H' e (lx ▸ q))⟩
      obtain ⟨d, hd1, pd⟩ := dp_at' hsx hi
      exact hs H1 i d x σ' H' e hd1 q (dpi (hm _ _ _ _ q) _ _ (immA_iff.mp im d (List.mem_of_getElem? hd1)) pd)
/-- for x in a list of texts just made -/
theorem q_forN {j : Nat} (h : EvN K tl σ H (l.map .str)) (Pv : Addr → Nat → L2.St → Hp → Prop) (h0 : ∀ b H1, Ex H H1 → H b = none → H1 b = some (.lst (l.map V.str)) → Pv b 0 σ H1) (hl : ∀ b i σ' H', Pv b i σ' H' → H' b = some (.lst (l.map V.str)))
    (hs : ∀ b i s σ' H', H b = none → l[i]? = some s → Pv b i σ' H' → tu { D with nx := Pv b (i + 1), ct := Pv b (i + 1), bk := tz D } (σ'.set j (some (.str s))) H')
    (hd : ∀ b σ' H', H b = none → Pv b l.length σ' H' → tz D σ' H') : tSeq (tFor (iList K tl) (gName j) tu) tz D σ H :=
  h H (Ex.refl H) _ fun b vs H1 hb e h1 hv => by
    obtain rfl := dp_strs hv
    refine ⟨b, rfl, ⟨_, sq_of h1⟩, for_list (D := { D with nx := tz D }) (xs := l.map V.str) (fun i σ' H' => Pv b i σ' H') (h0 b H1 e hb h1) (fun i σ' H' _ q => sq_of (hl _ _ _ _ q)) (fun i x σ' H' hi q => ?_) (fun σ' H' q => hd b σ' H' hb (by rw [List.length_map] at q; exact q))⟩
    rw [List.getElem?_map] at hi
    cases hq : l[i]? with
    | none => rw [hq] at hi; cases hi
    | some s =>
      rw [hq] at hi
      cases hi
      exact hs b i s σ' H' hb hq q
end
end Y
set_option Elab.async false
set_option linter.all false
set_option maxRecDepth 100000
set_option maxHeartbeats 4000000
set_option pp.maxSteps 600
set_option pp.deepTerms false
namespace Y
open PySem L2 Evl
def top (i : Nat) : Stmt := PySem.Challenge.pw_leancells_k03_names.main.body.getD i (.Pass ⟨0, 0, 0, 0⟩)
/-- a def of the text, as the top has made it -/
structure DefF (K : PySem.W.Frag) (mg : Str → Option Value) (x q : Str) (st : Stmt) (ps : List Str) where
  f : Addr
  fd : FuncData
  g : mg x = some (.ref f)
  h : Fun K x q st f fd
  b : Binds K fd ps []
abbrev s_is_within : Stmt := top 10
abbrev N_is_within : List Str := ["thing", "low", "high"]
theorem sc_is_within : FnScope N_is_within ["thing", "low", "high"] (defScope s_is_within) := ⟨rfl, rfl, rfl, by decide +kernel, rfl, by decide +kernel, by decide +kernel⟩
abbrev s_is_name : Stmt := top 11
abbrev N_is_name : List Str := ["thing", "sign"]
theorem sc_is_name : FnScope N_is_name ["thing"] (defScope s_is_name) := ⟨rfl, rfl, rfl, by decide +kernel, rfl, by decide +kernel, by decide +kernel⟩
abbrev s_is_sum : Stmt := top 12
abbrev N_is_sum : List Str := ["thing", "deep", "part"]
theorem sc_is_sum : FnScope N_is_sum ["thing", "deep"] (defScope s_is_sum) := ⟨rfl, rfl, rfl, by decide +kernel, rfl, by decide +kernel, by decide +kernel⟩
abbrev s_is_row : Stmt := top 13
abbrev N_is_row : List Str := ["thing"]
theorem sc_is_row : FnScope N_is_row ["thing"] (defScope s_is_row) := ⟨rfl, rfl, rfl, by decide +kernel, rfl, by decide +kernel, by decide +kernel⟩
abbrev s_is_source : Stmt := top 14
abbrev N_is_source : List Str := ["thing", "row"]
theorem sc_is_source : FnScope N_is_source ["thing"] (defScope s_is_source) := ⟨rfl, rfl, rfl, by decide +kernel, rfl, by decide +kernel, by decide +kernel⟩
abbrev s_look : Stmt := top 15
abbrev N_look : List Str := ["source"]
theorem sc_look : FnScope N_look ["source"] (defScope s_look) := ⟨rfl, rfl, rfl, by decide +kernel, rfl, by decide +kernel, by decide +kernel⟩
abbrev s_names_in : Stmt := top 16
abbrev N_names_in : List Str := ["some", "found", "part"]
theorem sc_names_in : FnScope N_names_in ["some"] (defScope s_names_in) := ⟨rfl, rfl, rfl, by decide +kernel, rfl, by decide +kernel, by decide +kernel⟩
abbrev s_sets_of : Stmt := top 17
abbrev N_sets_of : List Str := ["source", "row"]
theorem sc_sets_of : FnScope N_sets_of ["source"] (defScope s_sets_of) := ⟨rfl, rfl, rfl, by decide +kernel, rfl, by decide +kernel, by decide +kernel⟩
abbrev s_reads_of : Stmt := top 18
abbrev N_reads_of : List Str := ["source", "found", "mine", "row", "name"]
theorem sc_reads_of : FnScope N_reads_of ["source"] (defScope s_reads_of) := ⟨rfl, rfl, rfl, by decide +kernel, rfl, by decide +kernel, by decide +kernel⟩
abbrev s_sets : Stmt := top 19
abbrev N_sets : List Str := ["source"]
theorem sc_sets : FnScope N_sets ["source"] (defScope s_sets) := ⟨rfl, rfl, rfl, by decide +kernel, rfl, by decide +kernel, by decide +kernel⟩
abbrev s_reads : Stmt := top 20
abbrev N_reads : List Str := ["source"]
theorem sc_reads : FnScope N_reads ["source"] (defScope s_reads) := ⟨rfl, rfl, rfl, by decide +kernel, rfl, by decide +kernel, by decide +kernel⟩
abbrev s_law_cell : Stmt := top 22
abbrev N_law_cell : List Str := ["_law_script", "_law_k"]
theorem sc_law_cell : FnScope N_law_cell ["_law_script", "_law_k"] (defScope s_law_cell) := ⟨rfl, rfl, rfl, by decide +kernel, rfl, by decide +kernel, by decide +kernel⟩
abbrev s_law_seed : Stmt := top 23
abbrev N_law_seed : List Str := ["_law_seed_here", "_law_k"]
theorem sc_law_seed : FnScope N_law_seed ["_law_seed_here", "_law_k"] (defScope s_law_seed) := ⟨rfl, rfl, rfl, by decide +kernel, rfl, by decide +kernel, by decide +kernel⟩
abbrev s_law_pick : Stmt := top 24
abbrev N_law_pick : List Str := ["_law_seed_here", "_law_many"]
theorem sc_law_pick : FnScope N_law_pick ["_law_seed_here", "_law_many"] (defScope s_law_pick) := ⟨rfl, rfl, rfl, by decide +kernel, rfl, by decide +kernel, by decide +kernel⟩
abbrev s_law_sum : Stmt := top 25
abbrev N_law_sum : List Str := ["_law_seed_here", "_law_deep", "_law_some", "_law_k", "_law_parts", "_law_word"]
theorem sc_law_sum : FnScope N_law_sum ["_law_seed_here", "_law_deep"] (defScope s_law_sum) := ⟨rfl, rfl, rfl, by decide +kernel, rfl, by decide +kernel, by decide +kernel⟩
abbrev s_law_source : Stmt := top 26
abbrev N_law_source : List Str := ["_law_seed_here", "_law_found", "_law_k", "_law_one", "_law_some"]
theorem sc_law_source : FnScope N_law_source ["_law_seed_here"] (defScope s_law_source) := ⟨rfl, rfl, rfl, by decide +kernel, rfl, by decide +kernel, by decide +kernel⟩
abbrev s_law_names : Stmt := top 27
abbrev N_law_names : List Str := ["_law_some", "_law_found", "_law_part"]
theorem sc_law_names : FnScope N_law_names ["_law_some"] (defScope s_law_names) := ⟨rfl, rfl, rfl, by decide +kernel, rfl, by decide +kernel, by decide +kernel⟩
abbrev s_law : Stmt := top 28
abbrev N_law : List Str := ["_law_script", "_law_source_here", "_law_mine", "_law_due", "_law_row", "_law_name", "_law_turned"]
theorem sc_law : FnScope N_law ["_law_script"] (defScope s_law) := ⟨rfl, rfl, rfl, by decide +kernel, rfl, by decide +kernel, by decide +kernel⟩
structure Txt (K : PySem.W.Frag) (mg : Str → Option Value) where
  is_within : DefF K mg "is_within" "is_within" s_is_within ["thing", "low", "high"]
  is_name : DefF K mg "is_name" "is_name" s_is_name ["thing"]
  is_sum : DefF K mg "is_sum" "is_sum" s_is_sum ["thing", "deep"]
  is_row : DefF K mg "is_row" "is_row" s_is_row ["thing"]
  is_source : DefF K mg "is_source" "is_source" s_is_source ["thing"]
  look : DefF K mg "look" "look" s_look ["source"]
  names_in : DefF K mg "names_in" "names_in" s_names_in ["some"]
  sets_of : DefF K mg "sets_of" "sets_of" s_sets_of ["source"]
  reads_of : DefF K mg "reads_of" "reads_of" s_reads_of ["source"]
  sets : DefF K mg "sets" "sets" s_sets ["source"]
  reads : DefF K mg "reads" "reads" s_reads ["source"]
  law_cell : DefF K mg "_law_cell" "_law_cell" s_law_cell ["_law_script", "_law_k"]
  law_seed : DefF K mg "_law_seed" "_law_seed" s_law_seed ["_law_seed_here", "_law_k"]
  law_pick : DefF K mg "_law_pick" "_law_pick" s_law_pick ["_law_seed_here", "_law_many"]
  law_sum : DefF K mg "_law_sum" "_law_sum" s_law_sum ["_law_seed_here", "_law_deep"]
  law_source : DefF K mg "_law_source" "_law_source" s_law_source ["_law_seed_here"]
  law_names : DefF K mg "_law_names" "_law_names" s_law_names ["_law_some"]
  law : DefF K mg "law" "law" s_law ["_law_script"]
  b_isinstance : mg "isinstance" = none
  b_int : mg "int" = none
  b_bool : mg "bool" = none
  b_str : mg "str" = none
  b_tuple : mg "tuple" = none
  b_list : mg "list" = none
  b_len : mg "len" = none
  b_range : mg "range" = none
  b_sorted : mg "sorted" = none
  b_set : mg "set" = none
  v_SMALL : Value
  c_SMALL : mg "SMALL" = some v_SMALL
  r_SMALL : RelV (.str "abcdefghijklmnopqrstuvwxyz") v_SMALL
  v_ROUND : Value
  c_ROUND : mg "ROUND" = some v_ROUND
  r_ROUND : RelV (.int 10000) v_ROUND
  v_MOST_ROWS : Value
  c_MOST_ROWS : mg "MOST_ROWS" = some v_MOST_ROWS
  r_MOST_ROWS : RelV (.int 8) v_MOST_ROWS
  v_MOST_DEEP : Value
  c_MOST_DEEP : mg "MOST_DEEP" = some v_MOST_DEEP
  r_MOST_DEEP : RelV (.int 6) v_MOST_DEEP
  a_WORDS : Addr
  c_WORDS : mg "WORDS" = some (.ref a_WORDS)
  r_WORDS : RelV (.ref a_WORDS) (.ref a_WORDS)
  q_WORDS : ∀ H, SqT K H a_WORDS ([("add" : Str), "less", "times", "over", "same"].map V.str)
  a_BARRED : Addr
  c_BARRED : mg "BARRED" = some (.ref a_BARRED)
  r_BARRED : RelV (.ref a_BARRED) (.ref a_BARRED)
  q_BARRED : ∀ H, SqT K H a_BARRED ([("add" : Str), "less", "times", "over", "same", "if", "set", "show"].map V.str)
  BadSource : ExcF K mg "BadSource"
end Y
set_option Elab.async false
set_option linter.all false
set_option maxRecDepth 100000
set_option maxHeartbeats 4000000
set_option pp.maxSteps 600
namespace Y
open PySem L2 Evl
/-! ## sources: what they are, by plain data -/
def small : Str := "abcdefghijklmnopqrstuvwxyz"
def barred : List Str := [("add" : Str), ("less" : Str), "times", "over", "same", "if", "set", "show"]
def words5 : List Str := [("add" : Str), ("less" : Str), "times", "over", "same"]
def nameLen (s : Str) : Bool := decide (1 ≤ (s.length : Int)) && decide ((s.length : Int) ≤ 4)
def nameStr (s : Str) : Bool := nameLen s && !decide (s ∈ barred) && s.cps.toList.all fun c => decide (c ∈ small.cps.toList)
def isName : PyData → Bool
  | .str s => nameStr s
  | _ => false
theorem allEmpty {α β : Type} (l : List α) (p : α → Bool) (f : α → β) : ((l.filter fun c => !p c).map f).isEmpty = l.all p := by
  induction l with
  | nil => rfl
  | cons a r ih =>
    rw [List.filter_cons, List.all_cons]
    cases h : p a with
    | true => simpa using ih
    | false => simp
mutual
/-- texts are not too long, tuples neither, no lists -/
def short : PyData → Prop
  | .str s => s.length ≤ 100000
  | .tuple ds => ds.length ≤ 100000 ∧ shortA ds
  | .list ds => ds.length ≤ 100000 ∧ shortA ds
  | _ => True
def shortA : List PyData → Prop
  | [] => True
  | d :: ds => short d ∧ shortA ds
end
theorem shortA_mem : ∀ {ds : List PyData} {d : PyData}, shortA ds → d ∈ ds → short d
  | _ :: _, _, h, .head _ => by rw [shortA] at h; exact h.1
  | _ :: _, _, h, .tail _ m => by rw [shortA] at h; exact shortA_mem h.2 m
theorem short_cons {d : PyData} {ds : List PyData} (h : short (.tuple (d :: ds))) : short d ∧ ds.length ≤ 100000 ∧ shortA ds := by
  rw [short, shortA, List.length_cons] at h
  exact ⟨h.2.1, by omega, h.2.2⟩
def isWithin (lo hi : Int) : PyData → Bool
  | .int i => decide (lo ≤ i) && decide (i ≤ hi)
  | _ => false
/-- a sum of at most so many tuples within one another -/
def sumBy (f : List PyData → Bool) : PyData → Bool
  | .str s => nameStr s
  | .tuple ds => f ds
  | d => isWithin 0 9999 d
def isTup : Nat → List PyData → Bool
  | n + 1, .str h :: r => (decide (h ∈ words5) && decide (((r.length + 1 : Nat) : Int) = 3) || decide (h = "if") && decide (((r.length + 1 : Nat) : Int) = 4)) && r.all (sumBy (isTup n))
  | _, _ => false
abbrev isSum (n : Nat) : PyData → Bool := sumBy (isTup n)
def isRow : PyData → Bool
  | .tuple [.str h, a] => decide (h = "show") && isSum 6 a
  | .tuple [.str h, a, b] => !decide (h = "show") && (decide (h = "set") && (isName a && isSum 6 b))
  | _ => false
def isSource : PyData → Bool
  | .tuple ds => !decide ((8 : Int) < ds.length) && ds.all isRow
  | _ => false
abbrev e1 : PyData → List PyData := fun d => [d]
def spWithin (K : PySem.W.Frag) : Sp := spP K (α := PyData × Int × Int) (fun a => [a.1, .int a.2.1, .int a.2.2]) (fun _ => True) (fun a => .bool (isWithin a.2.1 a.2.2 a.1))
def spName (K : PySem.W.Frag) : Sp := spP K e1 short (fun d => .bool (isName d))
def spSum (K : PySem.W.Frag) (n : Nat) : Sp := spP K (fun d => [d, .int n]) short (fun d => .bool (isSum n d))
def spSumP (K : PySem.W.Frag) : Nat → Sp
  | 0 => fun _ _ _ _ => False
  | n + 1 => spSum K n
/-- a thing handed in as a source: short, its comprehensions stay as they are -/
def spRow (K : PySem.W.Frag) : Sp := spP K e1 short (fun d => .bool (isRow d))
def spSource (K : PySem.W.Frag) : Sp := spP K e1 short (fun d => .bool (isSource d))
section
variable {P : Program} {w : World} {K : PySem.W.Frag} {mg : Str → Option Value} {base : Heap}
local macro_rules | `(tactic| clean_wf) => `(tactic| first | exact ⟨by decide, by decide⟩ | (show (0 : Int) < _; decide) | exact .inr ⟨by decide, by decide⟩ | exact .inl ⟨by decide, by decide⟩ | (show (0 : Int) < _; omega))
local macro_rules | `(tactic| simp_wf) => `(tactic| (repeat (first | assumption | exact Ex.refl _ | refine Ex.trans (by assumption) ?_)))
local macro_rules | `(tactic| array_mem_dec) => `(tactic| first | assumption | exact Dp.int _ | exact Dp.str _ | exact Dp.bl _ | exact Dp.non | (refine dpx ?_ _ _ (by assumption); simp_wf))
local macro_rules | `(tactic| sizeOf_list_dec) => `(tactic| first
  | ((with_reducible show EvD _ (tVar _) _ _ _); exact d_var rfl (by array_mem_dec))
  | ((with_reducible show EvD _ (tC _) _ _ _); first | exact d_int | exact d_str | exact d_bl | exact d_non)
  | ((with_reducible show EvD _ (tOp (rIx _) _ _) _ _ _); exact d_ixA (by sizeOf_list_dec) (by sizeOf_list_dec) (by first | exact .t at_0 | exact .t at_1 | exact .t at_2 | exact .l at_0 | exact .l at_1 | exact .l at_2 | exact .t at_3 | exact .l at_3 | exact .t at_m2 | exact .t at_m3))
  | ((with_reducible show EvD _ (tOp (rI0 _) _ _) _ _ _); exact d_I0 (by sizeOf_list_dec) (by sizeOf_list_dec) (by intro _; first | exact Dp.int _ | exact Dp.bl _))
  | ((with_reducible show EvD _ (tOp (rI _ _) _ _) _ _ _); exact d_I (by sizeOf_list_dec) (by sizeOf_list_dec) (by clean_wf) (by intro _; exact Dp.int _))
  | ((with_reducible show EvD _ (tOp rEq _ _) _ _ _); exact (d_eqA (by sizeOf_list_dec) (by sizeOf_list_dec) (by constructor)).is (by rfl))
  | ((with_reducible show EvD _ (tOp rNe _ _) _ _ _); exact (d_neA (by sizeOf_list_dec) (by sizeOf_list_dec) (by constructor)).is (by rfl))
  | ((with_reducible show EvD _ (tCB (rIsi _) (tCons _ (tCons (tC (.ty "str")) _))) _ _ _); exact (d_isiS (by sizeOf_list_dec)).is (by rfl))
  | ((with_reducible show EvD _ (tCB (rIsi _) (tCons _ (tCons (tC (.ty "tuple")) _))) _ _ _); exact (d_isiT (by sizeOf_list_dec)).is (by rfl))
  | ((with_reducible show EvD _ (tCB (rIsi _) (tCons _ (tCons (tC (.ty "int")) _))) _ _ _); exact (d_isiI (by sizeOf_list_dec)).is (by rfl))
  | ((with_reducible show EvD _ (tCB (rIsi _) (tCons _ (tCons (tC (.ty "bool")) _))) _ _ _); exact (d_isiB (by sizeOf_list_dec)).is (by rfl))
  | ((with_reducible show EvD _ (tCB (rIsi _) (tCons _ (tCons (tC (.ty "list")) _))) _ _ _); exact (d_isiL (by sizeOf_list_dec)).is (by rfl))
  | ((with_reducible show EvD _ (tTup _) _ _ _); exact d_tup (by decreasing_trivial_pre_omega) (Nat.le_of_ble_eq_true rfl))
  | ((with_reducible show EvD _ (tLst _) _ _ _); exact (l_lst (by decreasing_trivial_pre_omega) (Nat.le_of_ble_eq_true rfl)).dat)
  | ((with_reducible show EvD _ (tUn _ _) _ _ _); exact d_neg (by sizeOf_list_dec))
  | ((with_reducible show EvD _ (tNotV _) _ _ _); exact (d_not (by sizeOf_list_dec)).is (by rfl))
  | ((with_reducible show EvD _ (tChain _ _ _ _ _) _ _ _); exact (d_chain (by sizeOf_list_dec) (by sizeOf_list_dec) (by sizeOf_list_dec)).is (by rfl))
  | ((with_reducible show EvD _ (tCB _ (tCons _ tNil)) _ _ _); exact (d_lenA (by sizeOf_list_dec) (by first | constructor | (constructor; assumption))).is (by rfl)))
local macro_rules | `(tactic| array_get_dec) => `(tactic| first
  | ((with_reducible show EvT (tTest _) _ _ _); exact d_tTest (K := ‹PySem.W.Frag›) (by sizeOf_list_dec))
  | ((with_reducible show EvT (tB _) _ _ _); exact d_tB (K := ‹PySem.W.Frag›) (by sizeOf_list_dec))
  | ((with_reducible show EvT (tNot _) _ _ _); exact et_is (et_not (by array_get_dec)) (by rfl))
  | exact et_is (t_truA (by sizeOf_list_dec) (by constructor)) (by rfl))
local macro_rules | `(tactic| decreasing_trivial_pre_omega) => `(tactic| first | exact ds_nil | exact ds_cons (by sizeOf_list_dec) (by decreasing_trivial_pre_omega))
theorem ok_is_within (T : Txt K mg) : FnOk P w K mg base CX0 1 T.is_within.f T.is_within.fd ["thing", "low", "high"] (spWithin K) := by
  refine T.is_within.h.ok sc_is_within (spP_len fun _ => rfl) (fun cdv A outer s H vs Q E hr h => ?_)
  obtain ⟨⟨d, lo, hi⟩, hvs, -, k⟩ := h
  obtain ⟨v, w1, w2, rfl, hd, h1, h2⟩ := dp3 hvs
  refine ⟨_, (pss_one (ps_ret (pe_and (pe_callB call_isi (by rfl) T.b_isinstance (by decide +kernel) (pa_cons (pv 0) (pa_cons (pe_bltn (v := .ty "int") (u := .type "int") (by rfl) T.b_int (by decide +kernel) rfl) pa_nil))) (pe_and (pe_not (pe_callB call_isi (by rfl) T.b_isinstance (by decide +kernel) (pa_cons (pv 0) (pa_cons (pe_bltn (v := .ty "bool") (u := .type "bool") (by rfl) T.b_bool (by decide +kernel) rfl) pa_nil)))) (pe_one (pe_chain op_le op_le (pv 1) (pv 0) (pv 2))))))), ?_⟩
  try dsimp only [cxOf, Cx.nox]
  refine s_ret ?_ k
  cases d with
  | int i => exact d_and1 (by sizeOf_list_dec) (d_and1 (d_notF (by sizeOf_list_dec)) (by sizeOf_list_dec))
  | bool b => exact d_and1 (by sizeOf_list_dec) (d_and0 (d_notT (by sizeOf_list_dec)))
  | _ => exact d_and0 (by sizeOf_list_dec)
theorem ok_is_name (T : Txt K mg) : FnOk P w K mg base CX0 1 T.is_name.f T.is_name.fd ["thing"] (spName K) := by
  refine T.is_name.h.ok sc_is_name (spP_len fun _ => rfl) (fun cdv A outer s H vs Q E hr h => ?_)
  obtain ⟨d, hvs, hl, k⟩ := h
  obtain ⟨v, rfl, hd⟩ := dp1 hvs
  have nd := sc_is_name.nd
  refine ⟨_, (pss_cons (ps_if (PW.pt (pw_or (pt_not (pt_val (pe_callB call_isi (by rfl) T.b_isinstance (by decide +kernel) (pa_cons (pv 0) (pa_cons (pe_bltn (v := .ty "str") (u := .type "str") (by rfl) T.b_str (by decide +kernel) rfl) pa_nil))))) (pw_or (pt_not (pt_chain op_le op_le pe_int (pe_callB call_len (by rfl) T.b_len (by decide +kernel) (pa_cons (pv 0) pa_nil)) pe_int)) (pw_or1 (pt_cmpR op_in_seq (pv 0) (pe_glob rfl T.c_BARRED T.r_BARRED) rfl))))) (pss_one (ps_ret pe_bl)) pss_nil)
      (pss_one (ps_ret (pe_notT (pe_lc (own := [("sign", 1)]) rfl nd (pi_str (pv 0)) (blkOk_by (own := [("sign", 1)]) (N := N_is_name) (sc := defScope s_is_name) (by decide +kernel)) (fun _ _ _ _ _ => (pg_name (i := 1) nd rfl (.inl rfl))) (fun _ _ _ _ _ => pts_one (pt_cmpR op_notIn_sign (pv 1) (pe_glob rfl T.c_SMALL T.r_SMALL) rfl)) (fun _ _ _ _ _ => (pv 1))))))), ?_⟩
  try dsimp only [cxOf, Cx.nox]
  cases d with
  | str s =>
    refine q_if (b := !(nameLen s && !decide (s ∈ barred))) (et_is (t_or0 (by array_get_dec) (et_or (et_not (t_chain d_int (d_lenS (by sizeOf_list_dec) hl) d_int)) fun _ => d_tTest (d_inC (l := barred) (by sizeOf_list_dec) rfl T.q_BARRED))) ?_) (fun hb H1 e => ?_) (fun hb H1 e => ?_)
    · simp [nameLen, Bool.not_and]
    · refine s_ret d_bl ((RetD.up e k).is' ?_)
      rw [Bool.not_eq_true'] at hb
      simp only [isName, nameStr, hb, Bool.false_and]
    · refine s_ret (d_notL (d_lcS (fun c => !decide (c ∈ small.cps.toList)) (fun c => .str ⟨#[c]⟩) (by sizeOf_list_dec) (fun _ _ _ => rfl) hl (fun _ => rfl) (fun c _ H1 _ => d_tTest (K := K) (d_ninS (by sizeOf_list_dec) (by sizeOf_list_dec))) (fun c _ _ H1 _ => by sizeOf_list_dec))) ((RetD.up e k).is' ?_)
      rw [Bool.not_eq_false'] at hb
      simp only [isName, nameStr, hb, Bool.true_and, allEmpty]
  | _ =>
    refine q_if (b := true) (t_or1 (by array_get_dec)) (fun hb H1 e => ?_) (fun hb => nomatch hb)
    exact s_ret d_bl (RetD.up e k)
theorem ok_is_sum_ (T : Txt K mg) (n : Nat) (ok_is_sum : FnOk P w K mg base CX0 (n + 1) T.is_sum.f T.is_sum.fd ["thing", "deep"] (spSumP K n)) : FnOk P w K mg base CX0 (n + 2) T.is_sum.f T.is_sum.fd ["thing", "deep"] (spSum K n) := by
  refine T.is_sum.h.ok sc_is_sum (spP_len fun _ => rfl) (fun cdv A outer s H vs Q E hr h => ?_)
  obtain ⟨d, hvs, hl, k⟩ := h
  obtain ⟨v, w1, rfl, hd, hw⟩ := dp2 hvs
  have nd := sc_is_sum.nd
  have ok_is_name := ok_is_name (P := P) (w := w) (base := base) T
  have hr_is_name : Room 1 _ := hr.mono (by omega)
  have ok_is_within := ok_is_within (P := P) (w := w) (base := base) T
  have hr_is_within : Room 1 _ := hr.mono (by omega)
  have hr_is_sum : Room (n + 1) _ := hr
  refine ⟨_, (pss_cons (ps_if (pt_val (pe_callB call_isi (by rfl) T.b_isinstance (by decide +kernel) (pa_cons (pv 0) (pa_cons (pe_bltn (v := .ty "str") (u := .type "str") (by rfl) T.b_str (by decide +kernel) rfl) pa_nil)))) (pss_one (ps_ret (pe_call ok_is_name hr_is_name (by rfl) T.is_name.g T.is_name.h.kp T.is_name.b .nil pass0 (pa_cons (pv 0) pa_nil)))) pss_nil)
      (pss_cons (ps_if (pt_not (pt_val (pe_callB call_isi (by rfl) T.b_isinstance (by decide +kernel) (pa_cons (pv 0) (pa_cons (pe_bltn (v := .ty "tuple") (u := .type "tuple") (by rfl) T.b_tuple (by decide +kernel) rfl) pa_nil))))) (pss_one (ps_ret (pe_call ok_is_within hr_is_within (by rfl) T.is_within.g T.is_within.h.kp T.is_within.b .nil pass0 (pa_cons (pv 0) (pa_cons pe_int (pa_cons (pe_op op_sub (pe_glob rfl T.c_ROUND T.r_ROUND) pe_int) pa_nil)))))) pss_nil)
      (pss_cons (ps_if (PW.pt (pw_or (pt_cmpR op_lt (pv 1) pe_int (nomark _)) (pw_or (pt_not (pt_truth (pv 0) (by intro _; rfl))) (pw_or1 (pt_not (pt_val (pe_callB call_isi (by rfl) T.b_isinstance (by decide +kernel) (pa_cons (pe_ix ix_seq (pv 0) pe_int (fun _ _ => rfl)) (pa_cons (pe_bltn (v := .ty "str") (u := .type "str") (by rfl) T.b_str (by decide +kernel) rfl) pa_nil))))))))) (pss_one (ps_ret pe_bl)) pss_nil)
      (pss_cons (ps_if (PW.pt (pw_or (PW.pt (pw_and (pt_cmpR op_in_seq (pe_ix ix_seq (pv 0) pe_int (fun _ _ => rfl)) (pe_glob rfl T.c_WORDS T.r_WORDS) rfl) (pw_and1 (pt_cmpR op_eq (pe_callB call_len (by rfl) T.b_len (by decide +kernel) (pa_cons (pv 0) pa_nil)) pe_int (nomark _))))) (pw_or1 (PW.pt (pw_and (pt_cmpR op_eq (pe_ix ix_seq (pv 0) pe_int (fun _ _ => rfl)) pe_str (nomark _)) (pw_and1 (pt_cmpR op_eq (pe_callB call_len (by rfl) T.b_len (by decide +kernel) (pa_cons (pv 0) pa_nil)) pe_int (nomark _)))))))) (pss_one (ps_ret (pe_notT (pe_lc (own := [("part", 2)]) rfl nd (pi_tup (pe_slice sl_tupA (pv 0) (po_some pe_int) po_none)) (blkOk_by (own := [("part", 2)]) (N := N_is_sum) (sc := defScope s_is_sum) (by decide +kernel)) (fun _ _ _ _ _ => (pg_name (i := 2) nd rfl (.inl rfl))) (fun _ _ _ _ _ => pts_one (pt_not (pt_val (pe_call ok_is_sum hr_is_sum (by rfl) T.is_sum.g T.is_sum.h.kp T.is_sum.b .nil pass0 (pa_cons (pv 2) (pa_cons (pe_op op_sub (pv 1) pe_int) pa_nil)))))) (fun _ _ _ _ _ => (pv 2)))))) pss_nil)
      (pss_one (ps_ret pe_bl)))))), ?_⟩
  try dsimp only [cxOf, Cx.nox]
  cases d with
  | str s =>
    refine q_if (b := true) (by array_get_dec) (fun hb H1 e => ?_) (fun hb => nomatch hb)
    exact s_ret (d_call (enc := e1) (a := .str s) (ds_cons (by sizeOf_list_dec) ds_nil) hl) (RetD.up e k)
  | tuple ds =>
    refine q_if (b := false) (by array_get_dec) (fun hb => nomatch hb) (fun _ H1 x1 => ?_)
    refine q_if (b := false) (by array_get_dec) (fun hb => nomatch hb) (fun _ H2 x2 => ?_)
    have k2 := (k.up x1).up x2
    cases n with
    | zero =>
      refine q_if (b := true) (t_or1 (by array_get_dec)) (fun _ H3 x3 => ?_) (fun hb => nomatch hb)
      exact s_ret d_bl (k2.up x3)
    | succ n =>
      have n1 : decide (((n + 1 : Nat) : Int) < 1) = false := by simp; omega
      cases ds with
      | nil =>
        refine q_if (b := true) (et_is (et_or (d_tTest (by sizeOf_list_dec)) fun _ => t_or1 (by array_get_dec)) (Bool.or_true _)) (fun _ H3 x3 => ?_) (fun hb => nomatch hb)
        exact s_ret d_bl (k2.up x3)
      | cons hd' r =>
        by_cases hs : ∃ h, hd' = .str h
        · obtain ⟨h, rfl⟩ := hs
          refine q_if (b := false) (t_or0 (et_is (d_tTest (by sizeOf_list_dec)) n1) (t_or0 (by array_get_dec) (by array_get_dec))) (fun hb => nomatch hb) (fun _ H3 x3 => ?_)
          have k3 := k2.up x3
          refine q_if (b := decide (h ∈ words5) && decide (((r.length + 1 : Nat) : Int) = 3) || decide (h = "if") && decide (((r.length + 1 : Nat) : Int) = 4)) (et_or (et_and (d_tTest (d_inC (l := words5) (by sizeOf_list_dec) rfl T.q_WORDS)) fun _ => by array_get_dec) fun _ => et_and (by array_get_dec) fun _ => by array_get_dec) (fun hb H4 x4 => ?_) (fun hb H4 x4 => ?_)
          · have sh := short_cons hl
            refine s_ret (d_notL (d_lcT (fun d => !isSum n d) (fun d => d) (d_slT1 (by sizeOf_list_dec)) sh.2.1 (fun _ => rfl) (fun d hm v1 H5 _ p => et_not (d_tB (K := K) (d_call (enc := fun d => [d, .int n]) (a := d) (ds_cons (by sizeOf_list_dec) (ds_cons ((d_I0 (by sizeOf_list_dec) (by sizeOf_list_dec) (fun _ => .int _)).is ?_) ds_nil)) (shortA_mem sh.2.2 hm)))) (fun d hm _ v1 H5 H6 _ _ p => evg_var rfl p))) ((k3.up x4).is' ?_)
            · simp
            · rw [allEmpty]; show PyData.bool (isTup (n + 1) (.str h :: r)) = _; rw [isTup, hb, Bool.true_and]
          · refine s_ret d_bl ((k3.up x4).is' ?_)
            show PyData.bool (isTup (n + 1) (.str h :: r)) = PyData.bool false
            rw [isTup, hb]; rfl
        · have hk : isStrD hd' = false := by
            cases hd' with
            | str h => exact absurd ⟨h, rfl⟩ hs
            | _ => rfl
          refine q_if (b := true) (et_is (et_or (d_tTest (by sizeOf_list_dec)) fun _ => et_or (by array_get_dec) fun _ => et_not (d_tB ((d_isiS (by sizeOf_list_dec)).is (by rw [hk])))) (by simp)) (fun _ H3 x3 => ?_) (fun hb => nomatch hb)
          refine s_ret d_bl ((k2.up x3).is' ?_)
          cases hd' with
          | str h => exact absurd ⟨h, rfl⟩ hs
          | _ => rfl
  | _ =>
    refine q_if (b := false) (by array_get_dec) (fun hb => nomatch hb) (fun _ H1 x1 => ?_)
    refine q_if (b := true) (by array_get_dec) (fun _ H2 x2 => ?_) (fun hb => nomatch hb)
    refine s_ret (d_call (enc := fun a : PyData × Int × Int => [a.1, .int a.2.1, .int a.2.2]) (a := (_, 0, 9999)) (ds_cons (by sizeOf_list_dec) (ds_cons d_int (ds_cons (by sizeOf_list_dec) ds_nil))) trivial) ?_
    exact (k.up x1).up x2
theorem ok_is_sum (T : Txt K mg) : ∀ n : Nat, FnOk P w K mg base CX0 (n + 2) T.is_sum.f T.is_sum.fd ["thing", "deep"] (spSum K n)
  | 0 => ok_is_sum_ T 0 fn_never
  | n + 1 => ok_is_sum_ T (n + 1) (ok_is_sum T n)
theorem ok_is_row (T : Txt K mg) : FnOk P w K mg base CX0 9 T.is_row.f T.is_row.fd ["thing"] (spRow K) := by
  refine T.is_row.h.ok sc_is_row (spP_len fun _ => rfl) (fun cdv A outer s H vs Q E hr h => ?_)
  obtain ⟨d, hvs, hl, k⟩ := h
  obtain ⟨v, rfl, hd⟩ := dp1 hvs
  have nd := sc_is_row.nd
  have ok_is_name := ok_is_name (P := P) (w := w) (base := base) T
  have hr_is_name : Room 1 _ := hr.mono (by omega)
  have ok_is_sum := ok_is_sum (P := P) (w := w) (base := base) T 6
  have hr_is_sum : Room (6 + 2) _ := hr
  refine ⟨_, (pss_cons (ps_if (PW.pt (pw_or (pt_not (pt_val (pe_callB call_isi (by rfl) T.b_isinstance (by decide +kernel) (pa_cons (pv 0) (pa_cons (pe_bltn (v := .ty "tuple") (u := .type "tuple") (by rfl) T.b_tuple (by decide +kernel) rfl) pa_nil))))) (pw_or (pt_not (pt_truth (pv 0) (by intro _; rfl))) (pw_or1 (pt_not (pt_val (pe_callB call_isi (by rfl) T.b_isinstance (by decide +kernel) (pa_cons (pe_ix ix_seq (pv 0) pe_int (fun _ _ => rfl)) (pa_cons (pe_bltn (v := .ty "str") (u := .type "str") (by rfl) T.b_str (by decide +kernel) rfl) pa_nil))))))))) (pss_one (ps_ret pe_bl)) pss_nil)
      (pss_cons (ps_if (pt_cmpR op_eq (pe_ix ix_seq (pv 0) pe_int (fun _ _ => rfl)) pe_str (nomark _)) (pss_one (ps_ret (pe_and (pe_cmpR op_eq (pe_callB call_len (by rfl) T.b_len (by decide +kernel) (pa_cons (pv 0) pa_nil)) pe_int (nomark _)) (pe_one (pe_call ok_is_sum hr_is_sum (by rfl) T.is_sum.g T.is_sum.h.kp T.is_sum.b .nil pass0 (pa_cons (pe_ix ix_seq (pv 0) pe_int (fun _ _ => rfl)) (pa_cons (pe_glob rfl T.c_MOST_DEEP T.r_MOST_DEEP) pa_nil))))))) pss_nil)
      (pss_one (ps_ret (pe_and (pe_cmpR op_eq (pe_ix ix_seq (pv 0) pe_int (fun _ _ => rfl)) pe_str (nomark _)) (pe_and (pe_cmpR op_eq (pe_callB call_len (by rfl) T.b_len (by decide +kernel) (pa_cons (pv 0) pa_nil)) pe_int (nomark _)) (pe_and (pe_call ok_is_name hr_is_name (by rfl) T.is_name.g T.is_name.h.kp T.is_name.b .nil pass0 (pa_cons (pe_ix ix_seq (pv 0) pe_int (fun _ _ => rfl)) pa_nil)) (pe_one (pe_call ok_is_sum hr_is_sum (by rfl) T.is_sum.g T.is_sum.h.kp T.is_sum.b .nil pass0 (pa_cons (pe_ix ix_seq (pv 0) pe_int (fun _ _ => rfl)) (pa_cons (pe_glob rfl T.c_MOST_DEEP T.r_MOST_DEEP) pa_nil))))))))))), ?_⟩
  try dsimp only [cxOf, Cx.nox]
  cases d with
  | tuple ds =>
    cases ds with
    | nil =>
      refine q_if (b := true) (t_or0 (by array_get_dec) (t_or1 (by array_get_dec))) (fun _ H1 x1 => ?_) (fun hb => nomatch hb)
      exact s_ret d_bl (k.up x1)
    | cons hd' r =>
      by_cases hs : ∃ h, hd' = .str h
      · obtain ⟨h, rfl⟩ := hs
        refine q_if (b := false) (t_or0 (by array_get_dec) (t_or0 (by array_get_dec) (by array_get_dec))) (fun hb => nomatch hb) (fun _ H1 x1 => ?_)
        have k1 := k.up x1
        have sh := short_cons hl
        refine q_if (b := decide (h = "show")) (by array_get_dec) (fun hb H2 x2 => ?_) (fun hb H2 x2 => ?_)
        · have k2 := k1.up x2
          match r, hl, sh, hd, k2 with
          | [], hl, sh, hd, k2 => exact s_ret (d_and0 (by sizeOf_list_dec)) k2
          | [a], hl, sh, hd, k2 =>
            refine s_ret (d_and1 (by sizeOf_list_dec) (d_call (enc := fun d => [d, .int (6 : Nat)]) (a := a) (ds_cons (by sizeOf_list_dec) (ds_cons d_int ds_nil)) (shortA_mem sh.2.2 (.head _)))) (k2.is' ?_)
            simp [isRow, hb]
          | a :: b :: r, hl, sh, hd, k2 =>
            refine s_ret (d_and0 ((d_eqI (by sizeOf_list_dec) d_int).is ?_)) (k2.is' ?_)
            · congr 1
            · cases r <;> simp [isRow, hb]
        · have k2 := k1.up x2
          match r, hl, sh, hd, k2 with
          | [], hl, sh, hd, k2 => exact s_ret (d_and (by sizeOf_list_dec) (fun _ => d_and0 (by sizeOf_list_dec))) (k2.is' (by rw [Bool.and_false]; rfl))
          | [a], hl, sh, hd, k2 =>
            refine s_ret ((d_and (by sizeOf_list_dec) (fun _ => d_and0 (by sizeOf_list_dec))).is (by rw [Bool.and_false])) (k2.is' ?_)
            simp [isRow, hb]
          | [a, b], hl, sh, hd, k2 =>
            refine s_ret (d_and (by sizeOf_list_dec) (fun _ => d_and1 (by sizeOf_list_dec) (d_and (d_call (enc := e1) (a := a) (ds_cons (by sizeOf_list_dec) ds_nil) (shortA_mem sh.2.2 (.head _))) (fun _ => d_call (enc := fun d => [d, .int (6 : Nat)]) (a := b) (ds_cons (by sizeOf_list_dec) (ds_cons d_int ds_nil)) (shortA_mem sh.2.2 (.tail _ (.head _))))))) (k2.is' ?_)
            simp [isRow, hb]
          | a :: b :: c :: r, hl, sh, hd, k2 =>
            refine s_ret ((d_and (by sizeOf_list_dec) (fun _ => d_and0 ((d_eqI (by sizeOf_list_dec) d_int).is ?_))).is (by rw [Bool.and_false])) (k2.is' ?_)
            · congr 1
            · simp [isRow]
      · have hk : isStrD hd' = false := by
          cases hd' with
          | str h => exact absurd ⟨h, rfl⟩ hs
          | _ => rfl
        refine q_if (b := true) (t_or0 (by array_get_dec) (t_or0 (by array_get_dec) (t_not1 (d_tB ((d_isiS (by sizeOf_list_dec)).is (by rw [hk])))))) (fun _ H3 x3 => ?_) (fun hb => nomatch hb)
        refine s_ret d_bl ((k.up x3).is' ?_)
        cases hd' with
        | str h => exact absurd ⟨h, rfl⟩ hs
        | _ => rcases r with _ | ⟨a, _ | ⟨b, _ | ⟨c, r⟩⟩⟩ <;> rfl
  | _ =>
    refine q_if (b := true) (t_or1 (by array_get_dec)) (fun _ H1 x1 => ?_) (fun hb => nomatch hb)
    exact s_ret d_bl (k.up x1)
theorem ok_is_source (T : Txt K mg) : FnOk P w K mg base CX0 10 T.is_source.f T.is_source.fd ["thing"] (spSource K) := by
  refine T.is_source.h.ok sc_is_source (spP_len fun _ => rfl) (fun cdv A outer s H vs Q E hr h => ?_)
  obtain ⟨d, hvs, hl, k⟩ := h
  obtain ⟨v, rfl, hd⟩ := dp1 hvs
  have nd := sc_is_source.nd
  have ok_is_row := ok_is_row (P := P) (w := w) (base := base) T
  have hr_is_row : Room 9 _ := hr
  refine ⟨_, (pss_cons (ps_if (PW.pt (pw_or (pt_not (pt_val (pe_callB call_isi (by rfl) T.b_isinstance (by decide +kernel) (pa_cons (pv 0) (pa_cons (pe_bltn (v := .ty "tuple") (u := .type "tuple") (by rfl) T.b_tuple (by decide +kernel) rfl) pa_nil))))) (pw_or1 (pt_cmpR op_gt (pe_callB call_len (by rfl) T.b_len (by decide +kernel) (pa_cons (pv 0) pa_nil)) (pe_glob rfl T.c_MOST_ROWS T.r_MOST_ROWS) (nomark _))))) (pss_one (ps_ret pe_bl)) pss_nil)
      (pss_one (ps_ret (pe_notT (pe_lc (own := [("row", 1)]) rfl nd (pi_tup (pv 0)) (blkOk_by (own := [("row", 1)]) (N := N_is_source) (sc := defScope s_is_source) (by decide +kernel)) (fun _ _ _ _ _ => (pg_name (i := 1) nd rfl (.inl rfl))) (fun _ _ _ _ _ => pts_one (pt_not (pt_val (pe_call ok_is_row hr_is_row (by rfl) T.is_row.g T.is_row.h.kp T.is_row.b .nil pass0 (pa_cons (pv 1) pa_nil))))) (fun _ _ _ _ _ => (pv 1))))))), ?_⟩
  try dsimp only [cxOf, Cx.nox]
  cases d with
  | tuple ds =>
    refine q_if (b := decide ((8 : Int) < ds.length)) (t_or0 (by array_get_dec) (by array_get_dec)) (fun hb H1 x1 => ?_) (fun hb H1 x1 => ?_)
    · refine s_ret d_bl ((k.up x1).is' ?_)
      simp only [isSource, hb, Bool.not_true, Bool.false_and]
    · rw [short] at hl
      refine s_ret (d_notL (d_lcT (fun d => !isRow d) (fun d => d) (by sizeOf_list_dec) hl.1 (fun _ => rfl) (fun d hm v1 H5 _ p => et_not (d_tB (K := K) (d_call (enc := e1) (a := d) (ds_cons (by sizeOf_list_dec) ds_nil) (shortA_mem hl.2 hm)))) (fun d hm _ v1 H5 H6 _ _ p => evg_var rfl p))) ((k.up x1).is' ?_)
      simp only [isSource, hb, Bool.not_false, Bool.true_and, allEmpty]
  | _ =>
    refine q_if (b := true) (t_or1 (by array_get_dec)) (fun _ H1 x1 => ?_) (fun hb => nomatch hb)
    exact s_ret d_bl (k.up x1)
/-! ## what the law's own helpers draw -/
def spCellL (K : PySem.W.Frag) : Sp := spP K (α := List Int × Nat) (fun a => [.list (a.1.map .int), .int a.2]) (fun a => a.1.length ≤ 1000) (fun a => .int (a.1.getD a.2 0))
def spSeed (K : PySem.W.Frag) : Sp := spP K (α := Int × Int) (fun a => [.int a.1, .int a.2]) (fun _ => True) (fun a => .int (lawSeed a.1 a.2))
def spPick (K : PySem.W.Frag) : Sp := spP K (α := Int × Int) (fun a => [.int a.1, .int a.2]) (fun a => 0 < a.2) (fun a => .int (lawPick a.1 a.2))
def spLSum (K : PySem.W.Frag) (n : Nat) : Sp := spP K (fun a : Int => [.int a, .int n]) (fun _ => True) (fun a => encS (lawSum n a))
def spLSumP (K : PySem.W.Frag) : Nat → Sp
  | 0 => fun _ _ _ _ => False
  | n + 1 => spLSum K n
def spLSource (K : PySem.W.Frag) : Sp := spP K (fun a : Int => [.int a]) (fun _ => True) (fun a => enc (lawSource a))
theorem ok_law_cell (T : Txt K mg) : FnOk P w K mg base CX0 1 T.law_cell.f T.law_cell.fd ["_law_script", "_law_k"] (spCellL K) := by
  refine T.law_cell.h.ok sc_law_cell (spP_len fun _ => rfl) (fun cdv A outer s H vs Q E hr h => ?_)
  obtain ⟨⟨ns, j⟩, hvs, hl, k⟩ := h
  obtain ⟨v, w1, rfl, hd, hw⟩ := dp2 hvs
  refine ⟨_, (pss_cons (ps_if (pt_cmpR op_lt (pv 1) (pe_callB call_len (by rfl) T.b_len (by decide +kernel) (pa_cons (pv 0) pa_nil)) (nomark _)) (pss_one (ps_ret (pe_ix ix_seq (pv 0) (pv 1) (fun _ _ => rfl)))) pss_nil)
      (pss_one (ps_ret pe_int))), ?_⟩
  try dsimp only [cxOf, Cx.nox]
  refine q_if (b := decide ((j : Int) < ((ns.map PyData.int).length : Nat))) (by array_get_dec) (fun hb H1 x1 => ?_) (fun hb H1 x1 => ?_)
  · have hj : j < (ns.map PyData.int).length := by simpa using hb
    have hj' : j < ns.length := by simpa using hj
    refine s_ret (d_ixL (by sizeOf_list_dec) (by sizeOf_list_dec) (atI_nat (List.getElem?_eq_getElem hj))) ((k.up x1).is' ?_)
    simp [List.getD_eq_getElem?_getD, hj']
  · have hj : ¬ j < ns.length := by simpa using hb
    refine s_ret d_int ((k.up x1).is' ?_)
    simp [List.getD_eq_getElem?_getD, List.getElem?_eq_none (Nat.le_of_not_lt hj)]
theorem ok_law_seed (T : Txt K mg) : FnOk P w K mg base CX0 1 T.law_seed.f T.law_seed.fd ["_law_seed_here", "_law_k"] (spSeed K) := by
  refine T.law_seed.h.ok sc_law_seed (spP_len fun _ => rfl) (fun cdv A outer s H vs Q E hr h => ?_)
  obtain ⟨⟨a, b⟩, hvs, hl, k⟩ := h
  obtain ⟨v, w1, rfl, hd, hw⟩ := dp2 hvs
  refine ⟨_, (pss_one (ps_ret (pe_op op_mod (pe_op op_pow (pe_op op_mod (pe_op op_add (pe_op op_add (pe_op op_mul (pv 0) pe_int) (pe_op op_mul pe_int (pv 1))) pe_int) pe_int) pe_int) pe_int))), ?_⟩
  try dsimp only [cxOf, Cx.nox]
  exact s_ret (d_I (d_I (by sizeOf_list_dec) d_int ⟨by decide, by decide, natAbs_mod _⟩ (fun _ => .int _)) d_int (by show (0 : Int) < _; decide) (fun _ => .int _)) k
theorem ok_law_pick (T : Txt K mg) : FnOk P w K mg base CX0 1 T.law_pick.f T.law_pick.fd ["_law_seed_here", "_law_many"] (spPick K) := by
  refine T.law_pick.h.ok sc_law_pick (spP_len fun _ => rfl) (fun cdv A outer s H vs Q E hr h => ?_)
  obtain ⟨⟨a, b⟩, hvs, hl, k⟩ := h
  obtain ⟨v, w1, rfl, hd, hw⟩ := dp2 hvs
  refine ⟨_, (pss_one (ps_ret (pe_op op_mod (pe_op op_fdiv (pv 0) pe_int) (pv 1)))), ?_⟩
  try dsimp only [cxOf, Cx.nox]
  exact s_ret (d_I (by sizeOf_list_dec) (by sizeOf_list_dec) hl (fun _ => .int _)) k
theorem ok_law_sum_ (T : Txt K mg) (n : Nat) (ok_law_sum : FnOk P w K mg base CX0 (n + 1) T.law_sum.f T.law_sum.fd ["_law_seed_here", "_law_deep"] (spLSumP K n)) : FnOk P w K mg base CX0 (n + 2) T.law_sum.f T.law_sum.fd ["_law_seed_here", "_law_deep"] (spLSum K n) := by
  refine T.law_sum.h.ok sc_law_sum (spP_len fun _ => rfl) (fun cdv A outer s H vs Q E hr h => ?_)
  obtain ⟨a, hvs, -, k⟩ := h
  obtain ⟨v, w1, rfl, hd, hw⟩ := dp2 hvs
  have nd := sc_law_sum.nd
  have ok_law_pick := ok_law_pick (P := P) (w := w) (base := base) T
  have hr_law_pick : Room 1 _ := hr.mono (by omega)
  have ok_law_seed := ok_law_seed (P := P) (w := w) (base := base) T
  have hr_law_seed : Room 1 _ := hr.mono (by omega)
  have hr_law_sum : Room (n + 1) _ := hr
  refine ⟨_, (pss_cons (ps_if (PW.pt (pw_or (pt_cmpR op_lt (pv 1) pe_int (nomark _)) (pw_or1 (pt_cmpR op_eq (pe_call ok_law_pick hr_law_pick (by rfl) T.law_pick.g T.law_pick.h.kp T.law_pick.b .nil pass0 (pa_cons (pv 0) (pa_cons pe_int pa_nil))) pe_int (nomark _))))) (pss_cons (ps_set (i := 2) nd rfl (.inl rfl) (pe_lst (pa_cons (pe_op op_mod (pe_op op_fdiv (pv 0) pe_int) pe_int) (pa_cons (pe_op op_mod (pe_op op_fdiv (pv 0) pe_int) pe_int) (pa_cons (pe_op op_mod (pe_op op_fdiv (pv 0) pe_int) pe_int) (pa_cons pe_int pa_nil))))))
      (pss_one (ps_ret (pe_ix ix_seq (pe_op op_cat (pv 2) (pe_lst (pa_cons pe_str (pa_cons pe_str (pa_cons pe_str (pa_cons pe_str (pa_cons pe_str (pa_cons pe_str pa_nil)))))))) (pe_op op_mod (pe_op op_fdiv (pv 0) pe_int) pe_int) (fun _ _ => rfl))))) pss_nil)
      (pss_cons (ps_setLc (i := 4) (own := [("_law_k", 3)]) rfl nd rfl rfl (sw_true rfl rfl rfl (by decide +kernel)) (pi_range1 rfl T.b_range (pa_cons pe_int pa_nil)) (blkOk_by (own := [("_law_k", 3)]) (N := N_law_sum) (sc := defScope s_law_sum) (by decide +kernel)) (fun _ _ _ _ _ => (pg_name (i := 3) nd rfl (.inl rfl))) (fun _ _ _ _ _ => pts_nil) (fun _ _ _ _ _ => (pe_call ok_law_sum hr_law_sum (by rfl) T.law_sum.g T.law_sum.h.kp T.law_sum.b .nil pass0 (pa_cons (pe_call ok_law_seed hr_law_seed (by rfl) T.law_seed.g T.law_seed.h.kp T.law_seed.b .nil pass0 (pa_cons (pv 0) (pa_cons (pv 3) pa_nil))) (pa_cons (pe_op op_sub (pv 1) pe_int) pa_nil)))))
      (pss_cons (ps_set (i := 5) nd rfl (.inl rfl) (pe_ix ix_seq (pe_lst (pa_cons pe_str (pa_cons pe_str (pa_cons pe_str (pa_cons pe_str (pa_cons pe_str (pa_cons pe_str (pa_cons pe_str pa_nil)))))))) (pe_op op_mod (pe_op op_fdiv (pv 0) pe_int) pe_int) (fun _ _ => rfl)))
      (pss_one (ps_ret (pe_ifExp (pt_cmpR op_eq (pv 5) pe_str (nomark _)) (pe_tup (pa_cons pe_str (pa_cons (pe_ix ix_seq (pv 4) pe_int (fun _ _ => rfl)) (pa_cons (pe_ix ix_seq (pv 4) pe_int (fun _ _ => rfl)) (pa_cons (pe_ix ix_seq (pv 4) pe_int (fun _ _ => rfl)) pa_nil))))) (pe_tup (pa_cons (pv 5) (pa_cons (pe_ix ix_seq (pv 4) pe_int (fun _ _ => rfl)) (pa_cons (pe_ix ix_seq (pv 4) pe_int (fun _ _ => rfl)) pa_nil)))))))))), ?_⟩
  try dsimp only [cxOf, Cx.nox]
  refine q_if (b := decide ((n : Int) < 1) || decide (lawPick a 3 = 0)) (et_or (by array_get_dec) fun _ => d_tTest (d_eqI (d_call (enc := fun a : Int × Int => [.int a.1, .int a.2]) (a := (a, 3)) (ds_cons (by sizeOf_list_dec) (ds_cons d_int ds_nil)) (by show (0 : Int) < 3; decide)) d_int)) (fun hb H1 x1 => ?_) (fun hb H1 x1 => ?_)
  · refine q_asgLd (l_lst (ds_cons (by sizeOf_list_dec) (ds_cons (by sizeOf_list_dec) (ds_cons (by sizeOf_list_dec) (ds_cons d_int ds_nil)))) (Nat.le_of_ble_eq_true rfl)) fun l H2 x2 hl => ?_
    refine s_ret (d_ixL (l_cat (l_var rfl hl) (l_lst (ds_cons d_str (ds_cons d_str (ds_cons d_str (ds_cons d_str (ds_cons d_str (ds_cons d_str ds_nil)))))) (Nat.le_of_ble_eq_true rfl)) (Nat.le_of_ble_eq_true rfl)).dat (by sizeOf_list_dec) (atI_getD (n := 10) rfl (by omega) (by omega) .none)) ?_
    exact ((k.up x1).up x2).is' ((congrArg encS (lawSum_leaf hb)).trans (leaf_enc a .none).symm)
  · cases n with
    | zero => exact absurd hb (by simp)
    | succ n =>
      refine q_asgD (l_lcR (fun _ => true) (fun i => encS (lawSum n (lawSeed a i))) (ds_cons d_int ds_nil) (by decide) (fun _ _ => imm_encS _) (fun _ => rfl) (fun _ _ _ _ => t_yes) (fun i H2 x2 hi _ => d_call (enc := fun a : Int => [.int a, .int n]) (a := lawSeed a i) (ds_cons (d_call (enc := fun a : Int × Int => [.int a.1, .int a.2]) (a := (a, i)) (ds_cons (by sizeOf_list_dec) (ds_cons (by sizeOf_list_dec) ds_nil)) trivial) (ds_cons ((d_I0 (by sizeOf_list_dec) d_int (fun _ => .int _)).is (by simp)) ds_nil)) trivial)) fun ps H2 x2 hps => ?_
      have hps : Dp K H2 ps (.list [encS (lawSum n (lawSeed a 0)), encS (lawSum n (lawSeed a 1)), encS (lawSum n (lawSeed a 2))]) := hps
      refine q_asgD (d_ixL (l_lst (ds_cons d_str (ds_cons d_str (ds_cons d_str (ds_cons d_str (ds_cons d_str (ds_cons d_str (ds_cons d_str ds_nil))))))) (Nat.le_of_ble_eq_true rfl)).dat (by sizeOf_list_dec) (atI_getD (n := 7) rfl (by omega) (by omega) .none)) fun wd H3 x3 hwd => ?_
      have hwd : Dp K H3 wd (.str (drawWord a)) := by
        have e : (drawWords.map PyData.str).getD (a / 11 % 7).toNat .none = .str (drawWord a) := getD_map_lt (by show _ < 7; omega)
        rw [← e]; exact hwd
      have k3 := ((k.up x1).up x2).up x3
      refine s_ret (d_if (b := decide (drawWord a = "if")) (by array_get_dec) (fun hw => ?_) (fun hw => ?_)) (k3.is' (congrArg encS (lawSum_more hb)))
      · rw [if_pos (of_decide_eq_true hw)]
        exact d_tup (ds_cons d_str (ds_cons (by sizeOf_list_dec) (ds_cons (by sizeOf_list_dec) (ds_cons (by sizeOf_list_dec) ds_nil)))) (Nat.le_of_ble_eq_true rfl)
      · rw [if_neg (of_decide_eq_false hw)]
        exact d_tup (ds_cons (by sizeOf_list_dec) (ds_cons (by sizeOf_list_dec) (ds_cons (by sizeOf_list_dec) ds_nil))) (Nat.le_of_ble_eq_true rfl)
theorem ok_law_sum (T : Txt K mg) : ∀ n : Nat, FnOk P w K mg base CX0 (n + 2) T.law_sum.f T.law_sum.fd ["_law_seed_here", "_law_deep"] (spLSum K n)
  | 0 => ok_law_sum_ T 0 fn_never
  | n + 1 => ok_law_sum_ T (n + 1) (ok_law_sum T n)
def spLSumA (K : PySem.W.Frag) : Sp := spP K (fun a : Int × Nat => [.int a.1, .int a.2]) (fun a => a.2 ≤ 6) (fun a => encS (lawSum a.2 a.1))
theorem ok_law_sumA (T : Txt K mg) : FnOk P w K mg base CX0 8 T.law_sum.f T.law_sum.fd ["_law_seed_here", "_law_deep"] (spLSumA K) :=
  fn_by (spP_len fun _ => rfl) fun vs H Q E ⟨a, h1, h2, h3⟩ => ⟨_, (ok_law_sum T a.2).mono (by omega), a.1, h1, trivial, h3⟩
theorem ok_law_source (T : Txt K mg) : FnOk P w K mg base CX0 9 T.law_source.f T.law_source.fd ["_law_seed_here"] (spLSource K) := by
  refine T.law_source.h.ok sc_law_source (spP_len fun _ => rfl) (fun cdv A outer s H vs Q E hr h => ?_)
  obtain ⟨a, hvs, -, k⟩ := h
  obtain ⟨v, rfl, hd⟩ := dp1 hvs
  obtain rfl := dp_int hd
  have nd := sc_law_source.nd
  have ok_law_pick := ok_law_pick (P := P) (w := w) (base := base) T
  have hr_law_pick : Room 1 _ := hr.mono (by omega)
  have ok_law_seed := ok_law_seed (P := P) (w := w) (base := base) T
  have hr_law_seed : Room 1 _ := hr.mono (by omega)
  have ok_law_sum := ok_law_sumA (P := P) (w := w) (base := base) T
  have hr_law_sum : Room 8 _ := hr
  refine ⟨_, (pss_cons (ps_set (i := 1) nd rfl (.inl rfl) (pe_lst pa_nil))
      (pss_cons (ps_for PassesOwn.never rfl (pi_range1 rfl T.b_range (pa_cons (pe_ix ix_seq (pe_lst (pa_cons (pe_op op_mod (pe_op op_fdiv (pv 0) pe_int) pe_int) (pa_cons (pe_op op_add pe_int (pe_op op_mod (pe_op op_fdiv (pv 0) pe_int) pe_int)) (pa_cons (pe_op op_mod (pe_op op_fdiv (pv 0) pe_int) pe_int) pa_nil)))) (pe_op op_mod (pe_op op_fdiv (pv 0) pe_int) pe_int) (fun _ _ => rfl)) pa_nil)) (pg_name (i := 2) nd rfl (.inl rfl))
      (pss_cons (ps_set (i := 3) nd rfl (.inl rfl) (pe_call ok_law_seed hr_law_seed (by rfl) T.law_seed.g T.law_seed.h.kp T.law_seed.b .nil pass0 (pa_cons (pv 0) (pa_cons (pe_op op_add pe_int (pv 2)) pa_nil))))
      (pss_cons (ps_set (i := 4) nd rfl (.inl rfl) (pe_call ok_law_sum hr_law_sum (by rfl) T.law_sum.g T.law_sum.h.kp T.law_sum.b .nil pass0 (pa_cons (pe_call ok_law_seed hr_law_seed (by rfl) T.law_seed.g T.law_seed.h.kp T.law_seed.b .nil pass0 (pa_cons (pv 3) (pa_cons pe_int pa_nil))) (pa_cons (pe_ix ix_seq (pe_lst (pa_cons (pe_op op_mod (pe_op op_fdiv (pv 3) pe_int) pe_int) (pa_cons pe_int pa_nil))) (pe_callTy call_int1 (by rfl) T.b_int (by decide +kernel) (pa_cons (pe_cmpR op_eq (pe_op op_mod (pe_op op_fdiv (pv 3) pe_int) pe_int) pe_int (nomark _)) pa_nil)) (fun _ _ => rfl)) pa_nil))))
      (pss_one (ps_if (pt_cmpR op_gt (pe_call ok_law_pick hr_law_pick (by rfl) T.law_pick.g T.law_pick.h.kp T.law_pick.b .nil pass0 (pa_cons (pv 3) (pa_cons pe_int pa_nil))) pe_int (nomark _)) (pss_one (ps_expr (pe_bm PySem.F.plainAttrs_list PySem.F.slot_list_append PySem.F.type_list_append mt_append (pv 1) (pa_cons (pe_tup (pa_cons pe_str (pa_cons (pe_ix ix_seq (pe_lst (pa_cons pe_str (pa_cons pe_str (pa_cons pe_str (pa_cons pe_str pa_nil))))) (pe_op op_mod (pe_op op_fdiv (pv 3) pe_int) pe_int) (fun _ _ => rfl)) (pa_cons (pv 4) pa_nil)))) pa_nil)))) (pss_one (ps_expr (pe_bm PySem.F.plainAttrs_list PySem.F.slot_list_append PySem.F.type_list_append mt_append (pv 1) (pa_cons (pe_tup (pa_cons pe_str (pa_cons (pv 4) pa_nil))) pa_nil)))))))))
      (pss_one (ps_ret (pe_callTy call_tuple_of (by rfl) T.b_tuple (by decide +kernel) (pa_cons (pv 1) pa_nil)))))), ?_⟩
  try dsimp only [cxOf, Cx.nox]
  refine q_nil fun p hp => ?_
  have hm := drawMany_le a
  refine q_forR (n := drawMany a) (ds_cons (d_ixL (l_lst (ds_cons (by sizeOf_list_dec) (ds_cons (by sizeOf_list_dec) (ds_cons (by sizeOf_list_dec) ds_nil))) (Nat.le_of_ble_eq_true rfl)).dat (by sizeOf_list_dec) ?_) ds_nil) (by omega)
    (fun i σ' H' => ∃ o2 o3 o4, σ' = [some (.int a), some (.ref p), o2, o3, o4] ∧ Ex H H' ∧ ∃ vs, H' p = some (.lst vs) ∧ DpAll K H' vs (((List.range i).map (drawRow a)).map encR))
    (fun H1 x1 => ⟨none, none, none, rfl, (Ex.new hp).trans x1, [], x1 _ _ upd_same, .nil⟩) (fun i σ' H' hi hP => ?_) (fun σ' H' hP => ?_)
  · exact drawMany_at a
  · obtain ⟨o2, o3, o4, rfl, e1, vs, hl, hvs⟩ := hP
    have hi8 : i < 8 := by omega
    have hz : vs.length < 100000 := by rw [dp_len hvs, List.length_map, List.length_map, List.length_range]; omega
    have im := immA_encR ((List.range i).map (drawRow a))
    refine q_asgD (d_call (enc := fun a : Int × Int => [.int a.1, .int a.2]) (a := (a, 20 + (i : Int))) (ds_cons (d_var rfl (.int a)) (ds_cons (d_I0 d_int (d_var rfl (.int i)) (fun _ => .int _)) ds_nil)) trivial) fun v3 H1 x1 h3 => ?_
    obtain rfl := dp_int h3
    have hd6 := drawDeep_le (lawSeed a (20 + i))
    refine q_asgD (d_call (enc := fun a : Int × Nat => [.int a.1, .int a.2]) (a := (lawSeed (lawSeed a (20 + i)) 1, (drawDeep (lawSeed a (20 + i))).toNat)) (ds_cons (d_call (enc := fun a : Int × Int => [.int a.1, .int a.2]) (a := (lawSeed a (20 + i), 1)) (ds_cons (d_var rfl (.int _)) (ds_cons d_int ds_nil)) trivial)
      (ds_cons (d_ixL (l_lst (ds_cons (d_I (d_I (d_var rfl (.int _)) d_int (by clean_wf) (fun _ => .int _)) d_int (by clean_wf) (fun _ => .int _)) (ds_cons d_int ds_nil)) (Nat.le_of_ble_eq_true rfl)).dat (d_intB (d_eqI (d_I (d_I (d_var rfl (.int _)) d_int (by clean_wf) (fun _ => .int _)) d_int (by clean_wf) (fun _ => .int _)) d_int)) (drawDeep_at _)) ds_nil)) (by show (drawDeep _).toNat ≤ 6; omega)) fun v4 H2 x2 h4 => ?_
    have hl2 := x2 _ _ (x1 _ _ hl)
    have hvs2 := dpxA (x1.trans x2) _ _ hvs
    have fin : ∀ H3 y d, Ex H2 H3 → Dp K H3 y d → d = encR (drawRow a i) → _ := fun H3 y d x3 py ey =>
      (⟨some (.int i), some (.int (lawSeed a (20 + i))), some v4, rfl, Ex.mut (((e1.trans x1).trans x2).trans x3) hp, vs ++ [y], upd_same, by
        rw [rows_snoc]
        refine dp_snoc (dpiA (im_lst (x3 _ _ hl2)) _ _ im (dpxA x3 _ _ hvs2)) ?_
        rw [← ey]
        exact dpi (im_lst (x3 _ _ hl2)) _ _ (by rw [ey]; exact imm_encR _) py⟩ : ∃ o2 o3 o4, [some (V.int a), some (.ref p), some (.int i), some (.int (lawSeed a (20 + i))), some v4] = [some (.int a), some (.ref p), o2, o3, o4] ∧ Ex H (upd H3 p (.lst (vs ++ [y]))) ∧ ∃ vs', upd H3 p (.lst (vs ++ [y])) p = some (.lst vs') ∧ DpAll K (upd H3 p (.lst (vs ++ [y]))) vs' (((List.range (i + 1)).map (drawRow a)).map encR))
    refine s_ifD (b := decide (0 < lawPick (lawSeed a (20 + i)) 3)) (d_tTest (d_I0 (d_call (enc := fun a : Int × Int => [.int a.1, .int a.2]) (a := (lawSeed a (20 + i), 3)) (ds_cons (d_var rfl (.int _)) (ds_cons d_int ds_nil)) (by show (0 : Int) < 3; decide)) d_int (fun _ => .bl _))) (fun hb H3 x3 => ?_) (fun hb H3 x3 => ?_)
    · exact s_app rfl (x3 _ _ hl2) (d_tup (ds_cons d_str (ds_cons (d_ixL (l_lst (ds_cons d_str (ds_cons d_str (ds_cons d_str (ds_cons d_str ds_nil)))) (Nat.le_of_ble_eq_true rfl)).dat (d_I (d_I (d_var rfl (.int _)) d_int (by clean_wf) (fun _ => .int _)) d_int (by clean_wf) (fun _ => .int _)) (drawName_at _)) (ds_cons (d_var rfl (dpx x3 _ _ h4)) ds_nil))) (Nat.le_of_ble_eq_true rfl)) hz fun y H4 x4 py => fin H4 y _ (x3.trans x4) py (by rw [drawRow_set hb]; rfl)
    · exact s_app rfl (x3 _ _ hl2) (d_tup (ds_cons d_str (ds_cons (d_var rfl (dpx x3 _ _ h4)) ds_nil)) (Nat.le_of_ble_eq_true rfl)) hz fun y H4 x4 py => fin H4 y _ (x3.trans x4) py (by rw [drawRow_shw hb]; rfl)
  · obtain ⟨o2, o3, o4, rfl, e1, vs, hl, hvs⟩ := hP
    refine s_ret (d_tupL (d_var rfl (.lst (sq_of hl) hvs))) ((k.up e1).is' rfl)
def spLook (K : PySem.W.Frag) (C : Addr) : Sp := spX K e1 short (fun d => if isSource d then .val .none else .err C)
theorem ok_look (T : Txt K mg) : FnOk P w K mg base (L2.CX P w) 12 T.look.f T.look.fd ["source"] (spLook K T.BadSource.C) := by
  refine T.look.h.okX sc_look (spX_len fun _ => rfl) (fun cdv A outer s H vs Q E hr h => ?_)
  obtain ⟨d, hvs, hl, k⟩ := h
  obtain ⟨v, rfl, hd⟩ := dp1 hvs
  have ok_is_source := ok_is_source (P := P) (w := w) (base := base) T
  have hr_is_source : Room 10 _ := hr.mono (by omega)
  refine ⟨_, (pss_one (ps_if (pt_not (pt_val (pe_call ok_is_source hr_is_source (by rfl) T.is_source.g T.is_source.h.kp T.is_source.b .nil pass0 (pa_cons (pv 0) pa_nil)))) (pss_one (ps_raise rfl (takes_of rfl rfl rfl rfl) (pmk_own PySem.F.excBase_ValueError T.BadSource.x T.BadSource.g T.BadSource.k (raises_own T.BadSource.s T.BadSource.t) rfl))) pss_nil)), ?_⟩
  try dsimp only [cxOf, Cx.nox]
  refine s_ifD (b := !isSource d) (et_not (d_tB (K := K) (d_call (enc := e1) (a := d) (ds_cons (by sizeOf_list_dec) ds_nil) hl))) (fun hb H1 x1 => ?_) (fun hb H1 x1 => ?_)
  · have k := k.up x1
    rw [Bool.not_eq_true'] at hb
    dsimp only at k
    rw [hb] at k
    exact k H1 (Ex.refl _)
  · have k := k.up x1
    rw [Bool.not_eq_false'] at hb
    dsimp only at k
    rw [hb] at k
    exact k .non H1 (Ex.refl _) .non
end
end Y
set_option Elab.async false
set_option linter.all false
set_option maxRecDepth 100000
set_option maxHeartbeats 4000000
set_option pp.maxSteps 600
namespace Y
open PySem L2 Evl
/-! ## typed sources that are in order -/
def okSm : Nat → Sm → Prop
  | _, .num n => 0 ≤ n ∧ n ≤ 9999
  | _, .nam s => nameStr s = true
  | n + 1, .op w a b => w ∈ words5 ∧ okSm n a ∧ okSm n b
  | n + 1, .ite t a b => okSm n t ∧ okSm n a ∧ okSm n b
  | _, _ => False
def okRw : Rw → Prop
  | .set x e => nameStr x = true ∧ okSm 6 e
  | .shw e => okSm 6 e
def okSrc (l : List Rw) : Prop := l.length ≤ 8 ∧ ∀ r ∈ l, okRw r
theorem okSm_up : ∀ {n m : Nat} {e : Sm}, n ≤ m → okSm n e → okSm m e
  | 0, 0, _, _, h => h
  | 0, m + 1, .num _, _, h => h
  | 0, m + 1, .nam _, _, h => h
  | n + 1, m + 1, .num _, _, h => h
  | n + 1, m + 1, .nam _, _, h => h
  | n + 1, m + 1, .op w a b, hm, h => ⟨h.1, okSm_up (Nat.le_of_succ_le_succ hm) h.2.1, okSm_up (Nat.le_of_succ_le_succ hm) h.2.2⟩
  | n + 1, m + 1, .ite t a b, hm, h => ⟨okSm_up (Nat.le_of_succ_le_succ hm) h.1, okSm_up (Nat.le_of_succ_le_succ hm) h.2.1, okSm_up (Nat.le_of_succ_le_succ hm) h.2.2⟩
theorem small_ok : small.cps.toList.all (fun c => decide (c < 0x110000)) = true := by decide +kernel
theorem name_ok {s : Str} (h : nameStr s = true) : s.length ≤ 4 ∧ PyData.strOk s = true := by
  unfold nameStr nameLen at h
  simp only [Bool.and_eq_true, decide_eq_true_eq] at h
  refine ⟨by omega, ?_⟩
  show s.cps.all (fun c => decide (c < 0x110000)) = true
  rw [Array.all_eq_true_iff_forall_mem]
  intro c hc
  have h2 := List.all_eq_true.mp h.2 c (Array.mem_toList_iff.mpr hc)
  exact List.all_eq_true.mp small_ok c (of_decide_eq_true h2)
theorem word_ok {w : Str} (h : w ∈ words5) : w.length ≤ 5 ∧ PyData.strOk w = true := by
  have : ∀ w ∈ words5, w.length ≤ 5 ∧ PyData.strOk w = true := by
    intro w hw
    simp only [words5, List.mem_cons, List.not_mem_nil, or_false] at hw
    rcases hw with rfl | rfl | rfl | rfl | rfl <;> decide +kernel
  exact this w h
theorem isSum_enc : ∀ {n : Nat} {e : Sm}, okSm n e → isSum n (encS e) = true
  | n, .num i, h => by
    have h' : 0 ≤ i ∧ i ≤ 9999 := by cases n <;> exact h
    show (decide (0 ≤ i) && decide (i ≤ 9999)) = true
    simp [h'.1, h'.2]
  | n, .nam s, h => by cases n <;> exact h
  | n + 1, .op w a b, h => by
    show ((decide (w ∈ words5) && decide (((2 + 1 : Nat) : Int) = 3) || decide (w = "if") && decide (((2 + 1 : Nat) : Int) = 4)) && (isSum n (encS a) && (isSum n (encS b) && true))) = true
    rw [isSum_enc h.2.1, isSum_enc h.2.2, decide_eq_true h.1]; simp
  | n + 1, .ite t a b, h => by
    show ((decide (("if" : Str) ∈ words5) && decide (((3 + 1 : Nat) : Int) = 3) || decide (("if" : Str) = "if") && decide (((3 + 1 : Nat) : Int) = 4)) && (isSum n (encS t) && (isSum n (encS a) && (isSum n (encS b) && true)))) = true
    rw [isSum_enc h.1, isSum_enc h.2.1, isSum_enc h.2.2]; simp
theorem isRow_enc {r : Rw} (h : okRw r) : isRow (encR r) = true := by
  cases r with
  | set x e =>
    show (!decide (("set" : Str) = "show") && (decide (("set" : Str) = "set") && (nameStr x && isSum 6 (encS e)))) = true
    rw [isSum_enc h.2, h.1, show decide (("set" : Str) = "show") = false from by decide +kernel]; simp
  | shw e =>
    show (decide (("show" : Str) = "show") && isSum 6 (encS e)) = true
    rw [isSum_enc h]; simp
theorem isSource_enc {l : List Rw} (h : okSrc l) : isSource (enc l) = true := by
  have h1 := h.1
  show (!decide ((8 : Int) < ((l.map encR).length : Nat)) && (l.map encR).all isRow) = true
  rw [decide_eq_false (by rw [List.length_map]; omega), List.all_map]
  simp only [Bool.not_false, Bool.true_and, List.all_eq_true]
  exact fun r hr => isRow_enc (h.2 r hr)
/-- what is needed of data: short, comparable -/
def fine (d : PyData) (n : Nat) : Prop := short d ∧ d.canLay0 = true ∧ d.depth ≤ n
theorem fine_tup {ds : List PyData} {n : Nat} (hl : ds.length ≤ 100000) (h : ∀ d ∈ ds, fine d n) : fine (.tuple ds) (n + 1) := by
  refine ⟨?_, layAll_iff.mpr fun d m => (h d m).2.1, Nat.succ_le_succ (depAll_le.mpr fun d m => (h d m).2.2)⟩
  rw [short]
  refine ⟨hl, ?_⟩
  clear hl
  induction ds with
  | nil => exact trivial
  | cons d r ih => exact ⟨(h d (.head _)).1, ih fun e m => h e (.tail _ m)⟩
theorem fine_lst {ds : List PyData} {n : Nat} (hl : ds.length ≤ 100000) (h : ∀ d ∈ ds, fine d n) : fine (.list ds) (n + 1) := by
  have := fine_tup hl h
  exact ⟨by rw [short]; have := this.1; rw [short] at this; exact this, this.2.1, this.2.2⟩
theorem fine_up {d : PyData} {n m : Nat} (h : fine d n) (k : n ≤ m) : fine d m := ⟨h.1, h.2.1, Nat.le_trans h.2.2 k⟩
theorem fine_str {s : Str} (h : s.length ≤ 100000) (k : PyData.strOk s = true) : fine (.str s) 0 := ⟨h, k, Nat.le_refl _⟩
theorem fine_int (i : Int) : fine (.int i) 0 := ⟨trivial, rfl, Nat.le_refl _⟩
theorem fine.shp {d : PyData} {n : Nat} (h : fine d n) (k : n ≤ 64) : shp d := shp_iff.mpr ⟨h.2.1, Nat.le_trans h.2.2 k⟩
theorem fine_encS : ∀ {n : Nat} {e : Sm}, okSm n e → fine (encS e) n
  | n, .num i, h => fine_up (fine_int i) (Nat.zero_le _)
  | n, .nam s, h => by
    have h' : nameStr s = true := by cases n <;> exact h
    have := name_ok h'
    exact fine_up (fine_str (by omega) this.2) (Nat.zero_le _)
  | n + 1, .op w a b, h => fine_tup (Nat.le_of_ble_eq_true rfl) (by
    have := word_ok h.1
    intro d hd
    simp only [List.mem_cons, List.not_mem_nil, or_false] at hd
    rcases hd with rfl | rfl | rfl
    · exact fine_up (fine_str (by omega) this.2) (Nat.zero_le _)
    · exact fine_encS h.2.1
    · exact fine_encS h.2.2)
  | n + 1, .ite t a b, h => fine_tup (Nat.le_of_ble_eq_true rfl) (by
    intro d hd
    simp only [List.mem_cons, List.not_mem_nil, or_false] at hd
    rcases hd with rfl | rfl | rfl | rfl
    · exact fine_up (fine_str (by decide +kernel) (by decide +kernel)) (Nat.zero_le _)
    · exact fine_encS h.1
    · exact fine_encS h.2.1
    · exact fine_encS h.2.2)
theorem fine_encR {r : Rw} (h : okRw r) : fine (encR r) 7 := by
  cases r with
  | set x e =>
    have := name_ok h.1
    refine fine_tup (Nat.le_of_ble_eq_true rfl) fun d hd => ?_
    simp only [List.mem_cons, List.not_mem_nil, or_false] at hd
    rcases hd with rfl | rfl | rfl
    · exact fine_up (fine_str (by decide +kernel) (by decide +kernel)) (Nat.zero_le _)
    · exact fine_up (fine_str (by omega) this.2) (Nat.zero_le _)
    · exact fine_encS h.2
  | shw e =>
    refine fine_tup (Nat.le_of_ble_eq_true rfl) fun d hd => ?_
    simp only [List.mem_cons, List.not_mem_nil, or_false] at hd
    rcases hd with rfl | rfl
    · exact fine_up (fine_str (by decide +kernel) (by decide +kernel)) (Nat.zero_le _)
    · exact fine_encS h
theorem fine_enc {l : List Rw} (h : okSrc l) : fine (enc l) 8 := fine_tup (by rw [List.length_map]; have := h.1; omega) fun d hd => by
  obtain ⟨r, hr, rfl⟩ := List.mem_map.mp hd
  exact fine_encR (h.2 r hr)
/-! ### what is drawn is in order -/
theorem ok_getD {α : Type} {l : List α} {P : α → Prop} {d : α} (h : ∀ a ∈ l, P a) (hd : P d) (i : Nat) : P (l.getD i d) := by
  rw [List.getD_eq_getElem?_getD]
  cases e : l[i]? with
  | none => exact hd
  | some a => exact h a (List.mem_of_getElem? e)
theorem draw_names : ∀ s ∈ drawNames, nameStr s = true := by
  intro s hs
  simp only [drawNames, List.mem_cons, List.not_mem_nil, or_false] at hs
  rcases hs with rfl | rfl | rfl | rfl <;> decide +kernel
theorem ok_leaf (n : Nat) (s : Int) : okSm n (leaf s) := by
  unfold leaf
  refine ok_getD (fun a ha => ?_) (by cases n <;> exact ⟨by decide, by decide⟩) _
  simp only [leafL, List.mem_cons, List.not_mem_nil, or_false] at ha
  have hn : ∀ i : Int, 0 ≤ i → i ≤ 9999 → okSm n (.num i) := fun i h1 h2 => by cases n <;> exact ⟨h1, h2⟩
  have hs : ∀ x : Str, x ∈ drawNames → okSm n (.nam x) := fun x hx => by cases n <;> exact draw_names x hx
  rcases ha with rfl | rfl | rfl | rfl | rfl | rfl | rfl | rfl | rfl | rfl
  · exact hn _ (by omega) (by omega)
  · exact hn _ (by omega) (by omega)
  · exact hn _ (by omega) (by omega)
  · exact hn _ (by omega) (by omega)
  · exact hs _ (.head _)
  · exact hs _ (.tail _ (.head _))
  · exact hs _ (.tail _ (.tail _ (.head _)))
  · exact hs _ (.tail _ (.tail _ (.tail _ (.head _))))
  · exact hs _ (.head _)
  · exact hs _ (.tail _ (.head _))
theorem draw_word {s : Int} (h : ¬ drawWord s = "if") : drawWord s ∈ words5 := by
  have : drawWord s ∈ words5 ∨ drawWord s = "if" := by
    unfold drawWord
    refine ok_getD (P := fun w => w ∈ words5 ∨ w = "if") (fun a ha => ?_) (.inl (.head _)) _
    simp only [drawWords, List.mem_cons, List.not_mem_nil, or_false] at ha
    rcases ha with rfl | rfl | rfl | rfl | rfl | rfl | rfl
    · exact .inl (.head _)
    · exact .inl (.tail _ (.head _))
    · exact .inl (.tail _ (.tail _ (.head _)))
    · exact .inl (.tail _ (.tail _ (.tail _ (.head _))))
    · exact .inl (.tail _ (.tail _ (.tail _ (.tail _ (.head _)))))
    · exact .inr rfl
    · exact .inl (.head _)
  exact this.resolve_right h
theorem ok_lawSum : ∀ (n : Nat) (s : Int), okSm n (lawSum n s)
  | 0, s => ok_leaf 0 s
  | n + 1, s => by
    rw [lawSum]
    split
    · exact ok_leaf _ s
    · split
      · exact ⟨ok_lawSum n _, ok_lawSum n _, ok_lawSum n _⟩
      · rename_i h; exact ⟨draw_word h, ok_lawSum n _, ok_lawSum n _⟩
theorem ok_drawRow (s : Int) (k : Nat) : okRw (drawRow s k) := by
  have hd := drawDeep_le (lawSeed s (20 + k))
  have he : okSm 6 (lawSum (drawDeep (lawSeed s (20 + k))).toNat (lawSeed (lawSeed s (20 + k)) 1)) := okSm_up (by omega) (ok_lawSum _ _)
  unfold drawRow
  dsimp only
  split
  · exact ⟨ok_getD draw_names (draw_names _ (.head _)) _, he⟩
  · exact he
theorem ok_lawSource (s : Int) : okSrc (lawSource s) := by
  have := drawMany_le s
  refine ⟨?_, fun r hr => ?_⟩
  · unfold lawSource; rw [List.length_map, List.length_range]; omega
  · obtain ⟨k, _, rfl⟩ := List.mem_map.mp hr; exact ok_drawRow s k
end Y
set_option Elab.async false
set_option linter.all false
set_option maxRecDepth 100000
set_option maxHeartbeats 4000000
set_option pp.maxSteps 600
namespace Y
open PySem L2 Evl
/-! ## the names in sums, what sources set and read -/
def namesS : Sm → List Str
  | .num _ => []
  | .nam s => [s]
  | .op _ a b => namesS a ++ namesS b
  | .ite t a b => namesS t ++ (namesS a ++ namesS b)
theorem sm_cases (e : Sm) : (∃ i, e = .num i) ∨ (∃ s, e = .nam s) ∨ ∃ (w : Str) (ps : List Sm), encS e = .tuple (.str w :: ps.map encS) ∧ namesS e = ps.flatMap namesS ∧ ps.length ≤ 3 ∧ (∀ n, okSm n e → ∃ m, n = m + 1 ∧ ∀ a ∈ ps, okSm m a) := by
  cases e with
  | num i => exact .inl ⟨i, rfl⟩
  | nam s => exact .inr (.inl ⟨s, rfl⟩)
  | op w a b =>
    refine .inr (.inr ⟨w, [a, b], rfl, by simp [namesS], by simp, fun n h => ?_⟩)
    cases n with
    | zero => exact h.elim
    | succ m => exact ⟨m, rfl, by simpa using h.2⟩
  | ite t a b =>
    refine .inr (.inr ⟨"if", [t, a, b], rfl, by simp [namesS], by simp, fun n h => ?_⟩)
    cases n with
    | zero => exact h.elim
    | succ m => exact ⟨m, rfl, by have h' : okSm m t ∧ okSm m a ∧ okSm m b := h; simpa using h'⟩
theorem namesS_len : ∀ {n : Nat} {e : Sm}, okSm n e → (namesS e).length ≤ 3 ^ n
  | _, .num _, _ => Nat.zero_le _
  | n, .nam _, _ => (by have q := Nat.pow_le_pow_right (n := 3) (by decide) (Nat.zero_le n); simpa [namesS] using q)
  | 0, .op _ _ _, h => h.elim
  | 0, .ite _ _ _, h => h.elim
  | n + 1, .op w a b, h => by
    have h1 := namesS_len h.2.1
    have h2 := namesS_len h.2.2
    rw [namesS, List.length_append, Nat.pow_succ]
    omega
  | n + 1, .ite t a b, h => by
    have h0 := namesS_len h.1
    have h1 := namesS_len h.2.1
    have h2 := namesS_len h.2.2
    rw [namesS, List.length_append, List.length_append, Nat.pow_succ]
    omega
theorem namesS_few {n : Nat} {e : Sm} (h : okSm n e) (hn : n ≤ 6) : (namesS e).length ≤ 729 := Nat.le_trans (namesS_len h) (Nat.le_trans (Nat.pow_le_pow_right (by decide) hn) (by decide))
theorem flat_take {α β : Type} (l : List α) (f : α → List β) (i : Nat) : ((l.take i).flatMap f).length ≤ (l.flatMap f).length := by
  have h : l.flatMap f = (l.take i).flatMap f ++ (l.drop i).flatMap f := by rw [← List.flatMap_append, List.take_append_drop]
  rw [h, List.length_append]; omega
theorem flat_snoc {α β : Type} {l : List α} {f : α → List β} {i : Nat} {a : α} (h : l[i]? = some a) : (l.take (i + 1)).flatMap f = (l.take i).flatMap f ++ f a := by
  rw [List.take_succ, h, List.flatMap_append]; simp
theorem map_at {α β : Type} {l : List α} {f : α → β} {i : Nat} {d : β} (h : (l.map f)[i]? = some d) : ∃ a, l[i]? = some a ∧ d = f a ∧ a ∈ l := by
  rw [List.getElem?_map] at h
  cases q : l[i]? with
  | none => rw [q] at h; cases h
  | some a => rw [q] at h; exact ⟨a, rfl, (Option.some.inj h).symm, List.mem_of_getElem? q⟩
/-- the names that are new -/
def addN (mine : List Str) : List Str → List Str → List Str
  | found, [] => found
  | found, s :: r => addN mine (if s ∈ mine ∨ s ∈ found then found else found ++ [s]) r
theorem addN_snoc (mine : List Str) : ∀ (l found : List Str) (s : Str), addN mine found (l ++ [s]) = if s ∈ mine ∨ s ∈ addN mine found l then addN mine found l else addN mine found l ++ [s]
  | [], _, _ => rfl
  | _ :: r, _, s => addN_snoc mine r _ s
theorem addN_len (mine : List Str) : ∀ (l found : List Str), (addN mine found l).length ≤ found.length + l.length
  | [], _ => Nat.le_refl _
  | s :: r, found => by
    refine Nat.le_trans (addN_len mine r _) ?_
    split <;> simp only [List.length_append, List.length_cons, List.length_nil] <;> omega
def rowSum : Rw → Sm
  | .set _ e => e
  | .shw e => e
def rowSets : Rw → List Str
  | .set x _ => [x]
  | .shw _ => []
def setsR (l : List Rw) : List Str := l.flatMap rowSets
def readsR : List Rw → List Str → List Str → List Str
  | [], found, _ => found
  | r :: l, found, mine => readsR l (addN mine found (namesS (rowSum r))) (mine ++ rowSets r)
/-- a part of the rows from the first on: what is found, what is set -/
def rdsTo (l : List Rw) : List Str := readsR l [] []
theorem readsR_snoc : ∀ (l : List Rw) (r : Rw) (found mine : List Str), readsR (l ++ [r]) found mine = addN (mine ++ setsR l) (readsR l found mine) (namesS (rowSum r))
  | [], r, found, mine => by simp [readsR, setsR]
  | x :: l, r, found, mine => by
    show readsR (l ++ [r]) _ _ = _
    rw [readsR_snoc l r, readsR]
    simp [setsR]
theorem readsR_len : ∀ (l : List Rw) (found mine : List Str), (∀ r ∈ l, okRw r) → (readsR l found mine).length ≤ found.length + 729 * l.length
  | [], _, _, _ => Nat.le_refl _
  | x :: l, found, mine, h => by
    refine Nat.le_trans (readsR_len l _ _ fun r hr => h r (List.mem_cons_of_mem _ hr)) ?_
    have hx := h x List.mem_cons_self
    have h1 : okSm 6 (rowSum x) := by cases x with
      | set a e => exact hx.2
      | shw e => exact hx
    have h2 := namesS_few h1 (Nat.le_refl 6)
    have h3 := addN_len mine (namesS (rowSum x)) found
    rw [List.length_cons]; omega
theorem okRw_sum {r : Rw} (h : okRw r) : okSm 6 (rowSum r) := by cases r with
  | set a e => exact h.2
  | shw e => exact h
theorem setsR_len : ∀ l : List Rw, (setsR l).length ≤ l.length
  | [] => Nat.le_refl _
  | r :: l => by
    rw [show setsR (r :: l) = rowSets r ++ setsR l from List.flatMap_cons, List.length_append, List.length_cons]
    have := setsR_len l
    cases r <;> simp [rowSets] <;> omega
end Y
set_option Elab.async false
set_option linter.all false
set_option maxRecDepth 100000
set_option maxHeartbeats 4000000
set_option pp.maxSteps 600
namespace Y
open PySem L2 Evl
section
variable {P : Program} {w : World} {K : PySem.W.Frag} {mg : Str → Option Value} {base : Heap}
local macro_rules | `(tactic| clean_wf) => `(tactic| first | exact ⟨by decide, by decide⟩ | (show (0 : Int) < _; decide) | exact .inr ⟨by decide, by decide⟩ | exact .inl ⟨by decide, by decide⟩ | (show (0 : Int) < _; omega))
local macro_rules | `(tactic| simp_wf) => `(tactic| (repeat (first | assumption | exact Ex.refl _ | refine Ex.trans (by assumption) ?_)))
local macro_rules | `(tactic| array_mem_dec) => `(tactic| first | assumption | exact Dp.int _ | exact Dp.str _ | exact Dp.bl _ | exact Dp.non | (refine dpx ?_ _ _ (by assumption); simp_wf))
local macro_rules | `(tactic| sizeOf_list_dec) => `(tactic| first
  | ((with_reducible show EvD _ (tVar _) _ _ _); exact d_var rfl (by array_mem_dec))
  | ((with_reducible show EvD _ (tC _) _ _ _); first | exact d_int | exact d_str | exact d_bl | exact d_non)
  | ((with_reducible show EvD _ (tOp (rIx _) _ _) _ _ _); exact d_ixA (by sizeOf_list_dec) (by sizeOf_list_dec) (by first | exact .t at_0 | exact .t at_1 | exact .t at_2 | exact .l at_0 | exact .l at_1 | exact .l at_2 | exact .t at_3 | exact .l at_3 | exact .t at_m2 | exact .t at_m3))
  | ((with_reducible show EvD _ (tOp (rI0 _) _ _) _ _ _); exact d_I0 (by sizeOf_list_dec) (by sizeOf_list_dec) (by intro _; first | exact Dp.int _ | exact Dp.bl _))
  | ((with_reducible show EvD _ (tOp (rI _ _) _ _) _ _ _); exact d_I (by sizeOf_list_dec) (by sizeOf_list_dec) (by clean_wf) (by intro _; exact Dp.int _))
  | ((with_reducible show EvD _ (tOp rEq _ _) _ _ _); exact (d_eqA (by sizeOf_list_dec) (by sizeOf_list_dec) (by constructor)).is (by rfl))
  | ((with_reducible show EvD _ (tOp rNe _ _) _ _ _); exact (d_neA (by sizeOf_list_dec) (by sizeOf_list_dec) (by constructor)).is (by rfl))
  | ((with_reducible show EvD _ (tCB (rIsi _) (tCons _ (tCons (tC (.ty "str")) _))) _ _ _); exact (d_isiS (by sizeOf_list_dec)).is (by rfl))
  | ((with_reducible show EvD _ (tCB (rIsi _) (tCons _ (tCons (tC (.ty "tuple")) _))) _ _ _); exact (d_isiT (by sizeOf_list_dec)).is (by rfl))
  | ((with_reducible show EvD _ (tCB (rIsi _) (tCons _ (tCons (tC (.ty "int")) _))) _ _ _); exact (d_isiI (by sizeOf_list_dec)).is (by rfl))
  | ((with_reducible show EvD _ (tCB (rIsi _) (tCons _ (tCons (tC (.ty "bool")) _))) _ _ _); exact (d_isiB (by sizeOf_list_dec)).is (by rfl))
  | ((with_reducible show EvD _ (tCB (rIsi _) (tCons _ (tCons (tC (.ty "list")) _))) _ _ _); exact (d_isiL (by sizeOf_list_dec)).is (by rfl))
  | ((with_reducible show EvD _ (tTup _) _ _ _); exact d_tup (by decreasing_trivial_pre_omega) (Nat.le_of_ble_eq_true rfl))
  | ((with_reducible show EvD _ (tLst _) _ _ _); exact (l_lst (by decreasing_trivial_pre_omega) (Nat.le_of_ble_eq_true rfl)).dat)
  | ((with_reducible show EvD _ (tUn _ _) _ _ _); exact d_neg (by sizeOf_list_dec))
  | ((with_reducible show EvD _ (tNotV _) _ _ _); exact (d_not (by sizeOf_list_dec)).is (by rfl))
  | ((with_reducible show EvD _ (tChain _ _ _ _ _) _ _ _); exact (d_chain (by sizeOf_list_dec) (by sizeOf_list_dec) (by sizeOf_list_dec)).is (by rfl))
  | ((with_reducible show EvD _ (tCB _ (tCons _ tNil)) _ _ _); exact (d_lenA (by sizeOf_list_dec) (by first | constructor | (constructor; assumption))).is (by rfl)))
local macro_rules | `(tactic| array_get_dec) => `(tactic| first
  | ((with_reducible show EvT (tTest _) _ _ _); exact d_tTest (K := ‹PySem.W.Frag›) (by sizeOf_list_dec))
  | ((with_reducible show EvT (tB _) _ _ _); exact d_tB (K := ‹PySem.W.Frag›) (by sizeOf_list_dec))
  | ((with_reducible show EvT (tNot _) _ _ _); exact et_is (et_not (by array_get_dec)) (by rfl))
  | exact et_is (t_truA (by sizeOf_list_dec) (by constructor)) (by rfl))
local macro_rules | `(tactic| decreasing_trivial_pre_omega) => `(tactic| first | exact ds_nil | exact ds_cons (by sizeOf_list_dec) (by decreasing_trivial_pre_omega))
/-! ## the names in a sum -/
def spNames (K : PySem.W.Frag) (n : Nat) : Sp := spN K (fun e : Sm => [encS e]) (okSm n) (fun e => (namesS e).map .str)
def spNamesP (K : PySem.W.Frag) : Nat → Sp
  | 0 => fun _ _ _ _ => False
  | n + 1 => spNames K n
theorem ok_names_in_ (T : Txt K mg) (n : Nat) (hn : n ≤ 6) (ok_names_in : FnOk P w K mg base CX0 (n + 1) T.names_in.f T.names_in.fd ["some"] (spNamesP K n)) : FnOk P w K mg base CX0 (n + 2) T.names_in.f T.names_in.fd ["some"] (spNames K n) := by
  refine T.names_in.h.ok sc_names_in (spN_len fun _ => rfl) (fun cdv A outer s H vs Q E hr h => ?_)
  obtain ⟨e, hvs, hl, k⟩ := h
  obtain ⟨v, rfl, hd⟩ := dp1 hvs
  have nd := sc_names_in.nd
  have hr_names_in : Room (n + 1) _ := hr
  refine ⟨_, (pss_cons (ps_if (pt_val (pe_callB call_isi (by rfl) T.b_isinstance (by decide +kernel) (pa_cons (pv 0) (pa_cons (pe_bltn (v := .ty "str") (u := .type "str") (by rfl) T.b_str (by decide +kernel) rfl) pa_nil)))) (pss_one (ps_ret (pe_lst (pa_cons (pv 0) pa_nil)))) pss_nil)
      (pss_cons (ps_set (i := 1) nd rfl (.inl rfl) (pe_lst pa_nil))
      (pss_cons (ps_if (pt_val (pe_callB call_isi (by rfl) T.b_isinstance (by decide +kernel) (pa_cons (pv 0) (pa_cons (pe_bltn (v := .ty "tuple") (u := .type "tuple") (by rfl) T.b_tuple (by decide +kernel) rfl) pa_nil)))) (pss_one (ps_for PassesOwn.never rfl (pi_tup (pe_slice sl_tupA (pv 0) (po_some pe_int) po_none)) (pg_name (i := 2) nd rfl (.inl rfl))
      (pss_one (ps_expr (pe_bm PySem.F.plainAttrs_list PySem.F.slot_list_extend PySem.F.type_list_extend mt_extend (pv 1) (pa_cons (pe_call ok_names_in hr_names_in (by rfl) T.names_in.g T.names_in.h.kp T.names_in.b .nil pass0 (pa_cons (pv 2) pa_nil)) pa_nil)))))) pss_nil)
      (pss_one (ps_ret (pv 1)))))), ?_⟩
  try dsimp only [cxOf, Cx.nox]
  rcases sm_cases e with ⟨i, rfl⟩ | ⟨z, rfl⟩ | ⟨w', ps, e1, e2, e3, e4⟩
  · refine q_if (b := false) (by array_get_dec) (fun hb => nomatch hb) (fun _ H1 x1 => ?_)
    refine q_nil fun p hp => ?_
    have x2 := x1.trans (Ex.new hp (o := .lst []))
    have hd1 := dpx x2 _ _ hd
    refine q_if (b := false) (by array_get_dec) (fun hb => nomatch hb) (fun _ H2 x3 => ?_)
    exact ⟨_, rfl, (k.up x1) p [] H2 hp ((Ex.new hp).trans x3) (x3 _ _ upd_same) .nil⟩
  · refine q_if (b := true) (by array_get_dec) (fun _ H1 x1 => ?_) (fun hb => nomatch hb)
    exact s_retN (n_lst (ds_cons (by sizeOf_list_dec) ds_nil) (Nat.le_of_ble_eq_true rfl)) (k.up x1)
  · rw [e1] at hd
    obtain ⟨m, rfl, hps⟩ := e4 n hl
    have few := namesS_few hl hn
    rw [e2] at few
    refine q_if (b := false) (by array_get_dec) (fun hb => nomatch hb) (fun _ H1 x1 => ?_)
    refine q_nil fun p hp => ?_
    have x2 := x1.trans (Ex.new hp (o := .lst []))
    have hd1 := dpx x2 _ _ hd
    have im : immA (ps.map encS) = true := immA_iff.mpr fun d hd => by obtain ⟨a, _, rfl⟩ := List.mem_map.mp hd; exact imm_encS a
    have k1 := k.up x1
    refine q_if (b := true) (by array_get_dec) (fun _ H2 x3 => ?_) (fun hb => nomatch hb)
    have hd2 := dpx x3 _ _ hd1
    refine q_forI (D := _) (tz := _) (d_slT1 (by sizeOf_list_dec)) im
      (fun H3 i σ' H' => ∃ o, σ' = [some v, some (.ref p), o] ∧ Im H3 H' ∧ Ex H1 H' ∧ H' p = some (.lst (((ps.take i).flatMap namesS).map V.str)))
      (fun H3 x4 => ⟨none, rfl, Im.refl _, (Ex.new hp).trans (x3.trans x4), x4 _ _ (x3 _ _ upd_same)⟩) (fun _ _ _ _ ⟨_, _, h, _⟩ => h) ?_ ?_
    · rintro H3 i d w2 σ' H' x4 hi ⟨o, rfl, i1, i2, i3⟩ hw
      obtain ⟨a, ha, rfl, hm⟩ := map_at hi
      have le1 := flat_take ps namesS (i + 1)
      rw [flat_snoc ha, List.length_append] at le1
      refine s_ext rfl i3 (n_call (enc := fun e : Sm => [encS e]) (a := a) (ds_cons (d_var rfl hw) ds_nil) (hps a hm)).lst (by rw [List.length_map, List.length_map]; omega) fun ys H4 x5 hy => ?_
      obtain rfl := dp_strs hy
      refine ⟨some w2, rfl, (i1.trans (im_ex x5)).trans (im_lst (x5 _ _ i3)), Ex.mut (i2.trans x5) hp, ?_⟩
      rw [upd_same, flat_snoc ha, List.map_append]
    · rintro H3 σ' H' x4 ⟨o, rfl, i1, i2, i3⟩
      rw [List.length_map, List.take_length] at i3
      exact ⟨_, rfl, k1 p _ H' hp i2 i3 (by dsimp only; rw [e2]; exact dp_strsL _)⟩
theorem ok_names_in (T : Txt K mg) : ∀ n : Nat, n ≤ 6 → FnOk P w K mg base CX0 (n + 2) T.names_in.f T.names_in.fd ["some"] (spNames K n)
  | 0, h => ok_names_in_ T 0 h fn_never
  | n + 1, h => ok_names_in_ T (n + 1) h (ok_names_in T n (by omega))
end
end Y
set_option Elab.async false
set_option linter.all false
set_option maxRecDepth 100000
set_option maxHeartbeats 4000000
set_option pp.maxSteps 600
namespace Y
open PySem L2 Evl
def rowIsSet : PyData → Bool
  | .tuple (.str w :: _) => decide (w = "set")
  | _ => false
def rowSecond : PyData → PyData
  | .tuple (_ :: x :: _) => x
  | _ => .none
theorem sets_data : ∀ l : List Rw, ((l.map encR).filter rowIsSet).map rowSecond = (setsR l).map .str
  | [] => rfl
  | .set x e :: l => by
    have ih := sets_data l
    have e1 : setsR (.set x e :: l) = x :: setsR l := rfl
    rw [e1, List.map_cons (f := PyData.str), ← ih]
    rfl
  | .shw e :: l => sets_data l
theorem take_snoc {α : Type} {l : List α} {i : Nat} {a : α} (h : l[i]? = some a) : l.take (i + 1) = l.take i ++ [a] := by
  rw [List.take_succ, h]; rfl
theorem row_last (r : Rw) : ∃ ds, encR r = .tuple ds ∧ atI ds (-1) = some (encS (rowSum r)) := by
  cases r with
  | set x e => exact ⟨_, rfl, at_m3⟩
  | shw e => exact ⟨_, rfl, at_m2⟩
theorem row_is (r : Rw) : ∃ ds, encR r = .tuple ds ∧ (∃ w, atI ds 0 = some (.str w) ∧ decide (w = "set") = rowIsSet (encR r)) := by
  cases r with
  | set x e => exact ⟨_, rfl, _, at_0, rfl⟩
  | shw e => exact ⟨_, rfl, _, at_0, rfl⟩
end Y
set_option Elab.async false
set_option linter.all false
set_option maxRecDepth 100000
set_option maxHeartbeats 4000000
set_option pp.maxSteps 600
namespace Y
open PySem L2 Evl
section
variable {P : Program} {w : World} {K : PySem.W.Frag} {mg : Str → Option Value} {base : Heap}
local macro_rules | `(tactic| clean_wf) => `(tactic| first | exact ⟨by decide, by decide⟩ | (show (0 : Int) < _; decide) | exact .inr ⟨by decide, by decide⟩ | exact .inl ⟨by decide, by decide⟩ | (show (0 : Int) < _; omega))
local macro_rules | `(tactic| simp_wf) => `(tactic| (repeat (first | assumption | exact Ex.refl _ | refine Ex.trans (by assumption) ?_)))
local macro_rules | `(tactic| array_mem_dec) => `(tactic| first | assumption | exact Dp.int _ | exact Dp.str _ | exact Dp.bl _ | exact Dp.non | (refine dpx ?_ _ _ (by assumption); simp_wf))
local macro_rules | `(tactic| sizeOf_list_dec) => `(tactic| first
  | ((with_reducible show EvD _ (tVar _) _ _ _); exact d_var rfl (by array_mem_dec))
  | ((with_reducible show EvD _ (tC _) _ _ _); first | exact d_int | exact d_str | exact d_bl | exact d_non)
  | ((with_reducible show EvD _ (tOp (rIx _) _ _) _ _ _); exact d_ixA (by sizeOf_list_dec) (by sizeOf_list_dec) (by first | exact .t at_0 | exact .t at_1 | exact .t at_2 | exact .l at_0 | exact .l at_1 | exact .l at_2 | exact .t at_3 | exact .l at_3 | exact .t at_m2 | exact .t at_m3))
  | ((with_reducible show EvD _ (tOp (rI0 _) _ _) _ _ _); exact d_I0 (by sizeOf_list_dec) (by sizeOf_list_dec) (by intro _; first | exact Dp.int _ | exact Dp.bl _))
  | ((with_reducible show EvD _ (tOp (rI _ _) _ _) _ _ _); exact d_I (by sizeOf_list_dec) (by sizeOf_list_dec) (by clean_wf) (by intro _; exact Dp.int _))
  | ((with_reducible show EvD _ (tOp rEq _ _) _ _ _); exact (d_eqA (by sizeOf_list_dec) (by sizeOf_list_dec) (by constructor)).is (by rfl))
  | ((with_reducible show EvD _ (tOp rNe _ _) _ _ _); exact (d_neA (by sizeOf_list_dec) (by sizeOf_list_dec) (by constructor)).is (by rfl))
  | ((with_reducible show EvD _ (tCB (rIsi _) (tCons _ (tCons (tC (.ty "str")) _))) _ _ _); exact (d_isiS (by sizeOf_list_dec)).is (by rfl))
  | ((with_reducible show EvD _ (tCB (rIsi _) (tCons _ (tCons (tC (.ty "tuple")) _))) _ _ _); exact (d_isiT (by sizeOf_list_dec)).is (by rfl))
  | ((with_reducible show EvD _ (tCB (rIsi _) (tCons _ (tCons (tC (.ty "int")) _))) _ _ _); exact (d_isiI (by sizeOf_list_dec)).is (by rfl))
  | ((with_reducible show EvD _ (tCB (rIsi _) (tCons _ (tCons (tC (.ty "bool")) _))) _ _ _); exact (d_isiB (by sizeOf_list_dec)).is (by rfl))
  | ((with_reducible show EvD _ (tCB (rIsi _) (tCons _ (tCons (tC (.ty "list")) _))) _ _ _); exact (d_isiL (by sizeOf_list_dec)).is (by rfl))
  | ((with_reducible show EvD _ (tTup _) _ _ _); exact d_tup (by decreasing_trivial_pre_omega) (Nat.le_of_ble_eq_true rfl))
  | ((with_reducible show EvD _ (tLst _) _ _ _); exact (l_lst (by decreasing_trivial_pre_omega) (Nat.le_of_ble_eq_true rfl)).dat)
  | ((with_reducible show EvD _ (tUn _ _) _ _ _); exact d_neg (by sizeOf_list_dec))
  | ((with_reducible show EvD _ (tNotV _) _ _ _); exact (d_not (by sizeOf_list_dec)).is (by rfl))
  | ((with_reducible show EvD _ (tChain _ _ _ _ _) _ _ _); exact (d_chain (by sizeOf_list_dec) (by sizeOf_list_dec) (by sizeOf_list_dec)).is (by rfl))
  | ((with_reducible show EvD _ (tCB _ (tCons _ tNil)) _ _ _); exact (d_lenA (by sizeOf_list_dec) (by first | constructor | (constructor; assumption))).is (by rfl)))
local macro_rules | `(tactic| array_get_dec) => `(tactic| first
  | ((with_reducible show EvT (tTest _) _ _ _); exact d_tTest (K := ‹PySem.W.Frag›) (by sizeOf_list_dec))
  | ((with_reducible show EvT (tB _) _ _ _); exact d_tB (K := ‹PySem.W.Frag›) (by sizeOf_list_dec))
  | ((with_reducible show EvT (tNot _) _ _ _); exact et_is (et_not (by array_get_dec)) (by rfl))
  | exact et_is (t_truA (by sizeOf_list_dec) (by constructor)) (by rfl))
local macro_rules | `(tactic| decreasing_trivial_pre_omega) => `(tactic| first | exact ds_nil | exact ds_cons (by sizeOf_list_dec) (by decreasing_trivial_pre_omega))
/-! ## what a source sets and reads -/
def spSetsOf (K : PySem.W.Frag) : Sp := spP K (fun l : List Rw => [enc l]) okSrc (fun l => .list ((setsR l).map .str))
theorem ok_sets_of (T : Txt K mg) : FnOk P w K mg base CX0 1 T.sets_of.f T.sets_of.fd ["source"] (spSetsOf K) := by
  refine T.sets_of.h.ok sc_sets_of (spP_len fun _ => rfl) (fun cdv A outer s H vs Q E hr h => ?_)
  obtain ⟨l, hvs, hl, k⟩ := h
  obtain ⟨v, rfl, hd⟩ := dp1 hvs
  have nd := sc_sets_of.nd
  refine ⟨_, (pss_one (ps_ret (pe_lc (own := [("row", 1)]) rfl nd (pi_tup (pv 0)) (blkOk_by (own := [("row", 1)]) (N := N_sets_of) (sc := defScope s_sets_of) (by decide +kernel)) (fun _ _ _ _ _ => (pg_name (i := 1) nd rfl (.inl rfl))) (fun _ _ _ _ _ => pts_one (pt_cmpR op_eq (pe_ix (r := rIx K) ix_seq (pv 1) pe_int (fun _ _ => rfl)) pe_str (nomark _))) (fun _ _ _ _ _ => (pe_ix (r := rIx K) ix_seq (pv 1) pe_int (fun _ _ => rfl)))))), ?_⟩
  try dsimp only [cxOf, Cx.nox]
  refine s_ret (d_lcT rowIsSet rowSecond (d_var rfl hd) (by rw [List.length_map]; have := hl.1; omega) (fun _ => rfl) (fun d hm v1 H1 x1 p => ?_) (fun d hm hp v1 H0 H1 x0 x1 p => ?_)) (k.is' (by dsimp only; rw [sets_data]))
  · obtain ⟨r, _, rfl⟩ := List.mem_map.mp hm
    cases r with
    | set x e => exact d_tTest (d_eqS (r := "set") (d_ixT (d_var rfl p) d_int at_0) d_str)
    | shw e => exact d_tTest (d_eqS (r := "set") (d_ixT (d_var rfl p) d_int at_0) d_str)
  · obtain ⟨r, _, rfl⟩ := List.mem_map.mp hm
    cases r with
    | set x e => exact evg_imm rfl (d_ixT (d_var rfl (dpx x1 _ _ p)) d_int at_1)
    | shw e => cases hp
def spReadsOf (K : PySem.W.Frag) : Sp := spN K (fun l : List Rw => [enc l]) okSrc (fun l => (readsR l [] []).map .str)
theorem ok_reads_of (T : Txt K mg) : FnOk P w K mg base CX0 9 T.reads_of.f T.reads_of.fd ["source"] (spReadsOf K) := by
  refine T.reads_of.h.ok sc_reads_of (spN_len fun _ => rfl) (fun cdv A outer s H vs Q E hr h => ?_)
  obtain ⟨l, hvs, hl, k⟩ := h
  obtain ⟨v, rfl, hd⟩ := dp1 hvs
  have nd := sc_reads_of.nd
  have ok_names_in := ok_names_in (P := P) (w := w) (base := base) T 6 (Nat.le_refl 6)
  have hr_names_in : Room 8 _ := hr
  refine ⟨_, (pss_cons (ps_set (i := 1) nd rfl (.inl rfl) (pe_lst pa_nil))
      (pss_cons (ps_set (i := 2) nd rfl (.inl rfl) (pe_lst pa_nil))
      (pss_cons (ps_for PassesOwn.never rfl (pi_tup (pv 0)) (pg_name (i := 3) nd rfl (.inl rfl))
      (pss_cons (ps_for PassesOwn.never rfl (pi_list (pe_call ok_names_in hr_names_in (by rfl) T.names_in.g T.names_in.h.kp T.names_in.b .nil pass0 (pa_cons (pe_ix ix_seq (pv 3) (pe_un un_neg pe_int) (fun _ _ => rfl)) pa_nil))) (pg_name (i := 4) nd rfl (.inl rfl))
      (pss_one (ps_if (PW.pt (pw_and (pt_cmpR op_notIn_seq (pv 4) (pv 2) rfl) (pw_and1 (pt_cmpR op_notIn_seq (pv 4) (pv 1) rfl)))) (pss_one (ps_expr (pe_bm PySem.F.plainAttrs_list PySem.F.slot_list_append PySem.F.type_list_append mt_append (pv 1) (pa_cons (pv 4) pa_nil)))) pss_nil)))
      (pss_one (ps_if (pt_cmpR op_eq (pe_ix ix_seq (pv 3) pe_int (fun _ _ => rfl)) pe_str (nomark _)) (pss_one (ps_expr (pe_bm PySem.F.plainAttrs_list PySem.F.slot_list_append PySem.F.type_list_append mt_append (pv 2) (pa_cons (pe_ix ix_seq (pv 3) pe_int (fun _ _ => rfl)) pa_nil)))) pss_nil))))
      (pss_one (ps_ret (pv 1)))))), ?_⟩
  try dsimp only [cxOf, Cx.nox]
  refine q_nil fun p hp => ?_
  refine q_nil fun q hq => ?_
  have pq : p ≠ q := fun e => by rw [← e, upd_same] at hq; cases hq
  have x0 : Ex H (upd (upd H p (.lst [])) q (.lst [])) := (Ex.new hp).trans (Ex.new hq)
  have hd0 := dpx x0 _ _ hd
  have few : ∀ i, (readsR (l.take i) [] []).length ≤ 5832 := fun i => by
    refine Nat.le_trans (readsR_len (l.take i) [] [] fun r hr => hl.2 r (List.mem_of_mem_take hr)) ?_
    have := hl.1
    rw [List.length_nil, List.length_take]
    omega
  refine q_forI (d_var rfl hd0) (immA_encR l)
    (fun H3 i σ' H' => ∃ o3 o4, σ' = [some v, some (.ref p), some (.ref q), o3, o4] ∧ Im H3 H' ∧ Ex H H' ∧ H' p = some (.lst ((readsR (l.take i) [] []).map V.str)) ∧ H' q = some (.lst ((setsR (l.take i)).map V.str)))
    (fun H3 x4 => ⟨none, none, rfl, Im.refl _, x0.trans x4, x4 _ _ (by rw [upd_ne pq, upd_same]; rfl), x4 _ _ upd_same⟩) (fun _ _ _ _ ⟨_, _, _, h, _⟩ => h) ?_ ?_
  · rintro H3 i d w3 σ' H' x4 hi ⟨o3, o4, rfl, i1, i2, i3, i4⟩ hw
    obtain ⟨r, hr, rfl, hm⟩ := map_at hi
    have okr := okRw_sum (hl.2 r hm)
    have few2 := namesS_few okr (Nat.le_refl 6)
    have fi := few i
    refine q_forN (l := namesS (rowSum r)) (n_call (enc := fun e : Sm => [encS e]) (a := rowSum r) (ds_cons (by
        obtain ⟨ds, e1, e2⟩ := row_last r
        rw [e1] at hw
        exact d_ixT (d_var rfl hw) (d_neg d_int) e2) ds_nil) okr)
      (fun b j σ2 H2 => ∃ o5, σ2 = [some v, some (.ref p), some (.ref q), some w3, o5] ∧ Im H' H2 ∧ Ex H H2 ∧ H2 p = some (.lst ((addN (setsR (l.take i)) (readsR (l.take i) [] []) ((namesS (rowSum r)).take j)).map V.str)) ∧ H2 q = some (.lst ((setsR (l.take i)).map V.str)) ∧ H2 b = some (.lst ((namesS (rowSum r)).map V.str)))
      (fun b H2 x5 hb h2 => ⟨o4, rfl, im_ex x5, i2.trans x5, x5 _ _ i3, x5 _ _ i4, h2⟩) (fun _ _ _ _ ⟨_, _, _, _, _, _, h⟩ => h) ?_ ?_
    · rintro b j z σ2 H2 hb hz ⟨o5, rfl, j1, j2, j3, j4, j5⟩
      have bp : b ≠ p := fun e => by rw [e, i3] at hb; cases hb
      have len := addN_len (setsR (l.take i)) ((namesS (rowSum r)).take j) (readsR (l.take i) [] [])
      rw [List.length_take] at len
      refine s_ifD (b := !decide (z ∈ setsR (l.take i)) && !decide (z ∈ addN (setsR (l.take i)) (readsR (l.take i) [] []) ((namesS (rowSum r)).take j)))
        (et_and (d_tTest (d_ninV (K := K) (d_var rfl (.str z)) (d_var rfl (.lst (sq_of j4) (dp_strsL _))))) fun _ => d_tTest (d_ninV (K := K) (d_var rfl (.str z)) (d_var rfl (.lst (sq_of j3) (dp_strsL _))))) (fun hb2 H4 x5 => ?_) (fun hb2 H4 x5 => ?_)
      · refine s_app rfl (x5 _ _ j3) (d_var rfl (.str z)) (by rw [List.length_map]; omega) fun y H5 x6 hy => ?_
        obtain rfl := dp_str hy
        have x56 := x5.trans x6
        refine ⟨_, rfl, (j1.trans (im_ex x56)).trans (im_lst (x56 _ _ j3)), Ex.mut (j2.trans x56) hp, ?_, by rw [upd_ne pq.symm]; exact x56 _ _ j4, by rw [upd_ne bp]; exact x56 _ _ j5⟩
        rw [upd_same, take_snoc hz, addN_snoc, if_neg (by simpa using hb2), List.map_append]
        rfl
      · refine ⟨_, rfl, j1.trans (im_ex x5), j2.trans x5, ?_, x5 _ _ j4, x5 _ _ j5⟩
        rw [take_snoc hz, addN_snoc, if_pos (by
          simp only [Bool.and_eq_false_iff, Bool.not_eq_false', decide_eq_true_eq] at hb2
          exact hb2)]
        exact x5 _ _ j3
    · rintro b σ2 H2 hb ⟨o5, rfl, j1, j2, j3, j4, j5⟩
      rw [List.take_length] at j3
      have e3 : readsR (l.take (i + 1)) [] [] = addN (setsR (l.take i)) (readsR (l.take i) [] []) (namesS (rowSum r)) := by rw [take_snoc hr, readsR_snoc]; rfl
      have e4 : setsR (l.take (i + 1)) = setsR (l.take i) ++ rowSets r := flat_snoc hr
      have hw2 := dpi j1 _ _ (imm_encR r) hw
      cases r with
      | set x e =>
        refine s_ifD (b := true) (et_is (d_tTest (d_eqS (r := "set") (d_ixT (d_var rfl hw2) d_int at_0) d_str)) rfl) (fun _ H4 x5 => ?_) (fun hb => nomatch hb)
        refine s_app rfl (x5 _ _ j4) (d_ixT (d_var rfl (dpx x5 _ _ hw2)) d_int at_1) (by have := setsR_len (l.take i); have := hl.1; rw [List.length_take] at *; rw [List.length_map]; omega) fun y H5 x6 hy => ?_
        obtain rfl := dp_str hy
        have x56 := x5.trans x6
        refine ⟨_, _, rfl, ((i1.trans j1).trans (im_ex x56)).trans (im_lst (x56 _ _ j4)), Ex.mut (j2.trans x56) (ex_none (Ex.new hp) hq), by rw [upd_ne pq, e3]; exact x56 _ _ j3, ?_⟩
        rw [upd_same, e4, List.map_append]
        rfl
      | shw e =>
        refine s_ifD (b := false) (et_is (d_tTest (d_eqS (r := "set") (d_ixT (d_var rfl hw2) d_int at_0) d_str)) rfl) (fun hb => nomatch hb) (fun _ H4 x5 => ?_)
        exact ⟨_, _, rfl, (i1.trans j1).trans (im_ex x5), j2.trans x5, by rw [e3]; exact x5 _ _ j3, by rw [e4, show rowSets (.shw e) = [] from rfl, List.append_nil]; exact x5 _ _ j4⟩
  · rintro H3 σ' H' x4 ⟨o3, o4, rfl, i1, i2, i3, i4⟩
    rw [List.length_map, List.take_length] at i3
    exact ⟨_, rfl, k p _ H' hp i2 i3 (dp_strsL _)⟩
end
end Y
set_option Elab.async false
set_option linter.all false
set_option maxRecDepth 100000
set_option maxHeartbeats 4000000
set_option pp.maxSteps 600
namespace Y
open PySem L2 Evl
section
variable {P : Program} {w : World} {K : PySem.W.Frag} {mg : Str → Option Value} {base : Heap}
local macro_rules | `(tactic| clean_wf) => `(tactic| first | exact ⟨by decide, by decide⟩ | (show (0 : Int) < _; decide) | exact .inr ⟨by decide, by decide⟩ | exact .inl ⟨by decide, by decide⟩ | (show (0 : Int) < _; omega))
local macro_rules | `(tactic| simp_wf) => `(tactic| (repeat (first | assumption | exact Ex.refl _ | refine Ex.trans (by assumption) ?_)))
local macro_rules | `(tactic| array_mem_dec) => `(tactic| first | assumption | exact Dp.int _ | exact Dp.str _ | exact Dp.bl _ | exact Dp.non | (refine dpx ?_ _ _ (by assumption); simp_wf))
local macro_rules | `(tactic| sizeOf_list_dec) => `(tactic| first
  | ((with_reducible show EvD _ (tVar _) _ _ _); exact d_var rfl (by array_mem_dec))
  | ((with_reducible show EvD _ (tC _) _ _ _); first | exact d_int | exact d_str | exact d_bl | exact d_non)
  | ((with_reducible show EvD _ (tOp (rIx _) _ _) _ _ _); exact d_ixA (by sizeOf_list_dec) (by sizeOf_list_dec) (by first | exact .t at_0 | exact .t at_1 | exact .t at_2 | exact .l at_0 | exact .l at_1 | exact .l at_2 | exact .t at_3 | exact .l at_3 | exact .t at_m2 | exact .t at_m3))
  | ((with_reducible show EvD _ (tOp (rI0 _) _ _) _ _ _); exact d_I0 (by sizeOf_list_dec) (by sizeOf_list_dec) (by intro _; first | exact Dp.int _ | exact Dp.bl _))
  | ((with_reducible show EvD _ (tOp (rI _ _) _ _) _ _ _); exact d_I (by sizeOf_list_dec) (by sizeOf_list_dec) (by clean_wf) (by intro _; exact Dp.int _))
  | ((with_reducible show EvD _ (tOp rEq _ _) _ _ _); exact (d_eqA (by sizeOf_list_dec) (by sizeOf_list_dec) (by constructor)).is (by rfl))
  | ((with_reducible show EvD _ (tOp rNe _ _) _ _ _); exact (d_neA (by sizeOf_list_dec) (by sizeOf_list_dec) (by constructor)).is (by rfl))
  | ((with_reducible show EvD _ (tCB (rIsi _) (tCons _ (tCons (tC (.ty "str")) _))) _ _ _); exact (d_isiS (by sizeOf_list_dec)).is (by rfl))
  | ((with_reducible show EvD _ (tCB (rIsi _) (tCons _ (tCons (tC (.ty "tuple")) _))) _ _ _); exact (d_isiT (by sizeOf_list_dec)).is (by rfl))
  | ((with_reducible show EvD _ (tCB (rIsi _) (tCons _ (tCons (tC (.ty "int")) _))) _ _ _); exact (d_isiI (by sizeOf_list_dec)).is (by rfl))
  | ((with_reducible show EvD _ (tCB (rIsi _) (tCons _ (tCons (tC (.ty "bool")) _))) _ _ _); exact (d_isiB (by sizeOf_list_dec)).is (by rfl))
  | ((with_reducible show EvD _ (tCB (rIsi _) (tCons _ (tCons (tC (.ty "list")) _))) _ _ _); exact (d_isiL (by sizeOf_list_dec)).is (by rfl))
  | ((with_reducible show EvD _ (tTup _) _ _ _); exact d_tup (by decreasing_trivial_pre_omega) (Nat.le_of_ble_eq_true rfl))
  | ((with_reducible show EvD _ (tLst _) _ _ _); exact (l_lst (by decreasing_trivial_pre_omega) (Nat.le_of_ble_eq_true rfl)).dat)
  | ((with_reducible show EvD _ (tUn _ _) _ _ _); exact d_neg (by sizeOf_list_dec))
  | ((with_reducible show EvD _ (tNotV _) _ _ _); exact (d_not (by sizeOf_list_dec)).is (by rfl))
  | ((with_reducible show EvD _ (tChain _ _ _ _ _) _ _ _); exact (d_chain (by sizeOf_list_dec) (by sizeOf_list_dec) (by sizeOf_list_dec)).is (by rfl))
  | ((with_reducible show EvD _ (tCB _ (tCons _ tNil)) _ _ _); exact (d_lenA (by sizeOf_list_dec) (by first | constructor | (constructor; assumption))).is (by rfl)))
local macro_rules | `(tactic| array_get_dec) => `(tactic| first
  | ((with_reducible show EvT (tTest _) _ _ _); exact d_tTest (K := ‹PySem.W.Frag›) (by sizeOf_list_dec))
  | ((with_reducible show EvT (tB _) _ _ _); exact d_tB (K := ‹PySem.W.Frag›) (by sizeOf_list_dec))
  | ((with_reducible show EvT (tNot _) _ _ _); exact et_is (et_not (by array_get_dec)) (by rfl))
  | exact et_is (t_truA (by sizeOf_list_dec) (by constructor)) (by rfl))
local macro_rules | `(tactic| decreasing_trivial_pre_omega) => `(tactic| first | exact ds_nil | exact ds_cons (by sizeOf_list_dec) (by decreasing_trivial_pre_omega))
/-- look at a good source -/
def spGood (K : PySem.W.Frag) : Sp := spP K e1 (fun d => short d ∧ isSource d = true) (fun _ => .none)
theorem ok_lookG (T : Txt K mg) : FnOk P w K mg base CX0 12 T.look.f T.look.fd ["source"] (spGood K) := by
  refine T.look.h.ok sc_look (spP_len fun _ => rfl) (fun cdv A outer s H vs Q E hr h => ?_)
  obtain ⟨d, hvs, ⟨hl, hg⟩, k⟩ := h
  obtain ⟨v, rfl, hd⟩ := dp1 hvs
  have ok_is_source := ok_is_source (P := P) (w := w) (base := base) T
  have hr_is_source : Room 10 _ := hr.mono (by omega)
  refine ⟨_, (pss_one (ps_if (pt_not (pt_val (pe_call ok_is_source hr_is_source (by rfl) T.is_source.g T.is_source.h.kp T.is_source.b .nil pass0 (pa_cons (pv 0) pa_nil)))) pss_never pss_nil)), ?_⟩
  try dsimp only [cxOf, Cx.nox]
  refine s_ifD (b := false) (et_is (et_not (d_tB (K := K) (d_call (enc := e1) (a := d) (ds_cons (by sizeOf_list_dec) ds_nil) hl))) (by rw [hg]; rfl)) (fun hb => nomatch hb) (fun _ H1 x1 => ?_)
  exact k.up x1 .non H1 (Ex.refl _) .non
def spSetsG (K : PySem.W.Frag) : Sp := spP K (fun l : List Rw => [enc l]) okSrc (fun l => .list ((setS (setsR l)).map .str))
theorem ok_setsG (T : Txt K mg) : FnOk P w K mg base CX0 13 T.sets.f T.sets.fd ["source"] (spSetsG K) := by
  refine T.sets.h.ok sc_sets (spP_len fun _ => rfl) (fun cdv A outer s H vs Q E hr h => ?_)
  obtain ⟨l, hvs, hl, k⟩ := h
  obtain ⟨v, rfl, hd⟩ := dp1 hvs
  have ok_look := ok_lookG (P := P) (w := w) (base := base) T
  have hr_look : Room 12 _ := hr
  have ok_sets_of := ok_sets_of (P := P) (w := w) (base := base) T
  have hr_sets_of : Room 1 _ := hr.mono (by omega)
  have len := setsR_len l
  have l8 := hl.1
  refine ⟨_, (pss_cons (ps_expr (pe_call ok_look hr_look (by rfl) T.look.g T.look.h.kp T.look.b .nil pass0 (pa_cons (pv 0) pa_nil)))
      (pss_one (ps_ret (pe_callB (cr_sortT rfl) (by rfl) T.b_sorted (by decide +kernel) (pa_cons (pe_callTy (cr_setT rfl) (by rfl) T.b_set (by decide +kernel) (pa_cons (pe_call ok_sets_of hr_sets_of (by rfl) T.sets_of.g T.sets_of.h.kp T.sets_of.b .nil pass0 (pa_cons (pv 0) pa_nil)) pa_nil)) pa_nil))))), ?_⟩
  try dsimp only [cxOf, Cx.nox]
  refine q_drop (d_call (enc := e1) (a := enc l) (ds_cons (d_var rfl hd) ds_nil) ⟨(fine_enc hl).1, isSource_enc hl⟩) fun H1 x1 => ?_
  exact s_ret (d_sortSet (d_call (enc := fun l : List Rw => [enc l]) (a := l) (ds_cons (d_var rfl (dpx x1 _ _ hd)) ds_nil) hl) (by omega)) (k.up x1)
def spReadsG (K : PySem.W.Frag) : Sp := spN K (fun l : List Rw => [enc l]) okSrc (fun l => (readsR l [] []).map .str)
theorem ok_readsG (T : Txt K mg) : FnOk P w K mg base CX0 13 T.reads.f T.reads.fd ["source"] (spReadsG K) := by
  refine T.reads.h.ok sc_reads (spN_len fun _ => rfl) (fun cdv A outer s H vs Q E hr h => ?_)
  obtain ⟨l, hvs, hl, k⟩ := h
  obtain ⟨v, rfl, hd⟩ := dp1 hvs
  have ok_look := ok_lookG (P := P) (w := w) (base := base) T
  have hr_look : Room 12 _ := hr
  have ok_reads_of := ok_reads_of (P := P) (w := w) (base := base) T
  have hr_reads_of : Room 9 _ := hr.mono (by omega)
  refine ⟨_, (pss_cons (ps_expr (pe_call ok_look hr_look (by rfl) T.look.g T.look.h.kp T.look.b .nil pass0 (pa_cons (pv 0) pa_nil)))
      (pss_one (ps_ret (pe_call ok_reads_of hr_reads_of (by rfl) T.reads_of.g T.reads_of.h.kp T.reads_of.b .nil pass0 (pa_cons (pv 0) pa_nil))))), ?_⟩
  try dsimp only [cxOf, Cx.nox]
  refine q_drop (d_call (enc := e1) (a := enc l) (ds_cons (d_var rfl hd) ds_nil) ⟨(fine_enc hl).1, isSource_enc hl⟩) fun H1 x1 => ?_
  exact s_retN (n_call (enc := fun l : List Rw => [enc l]) (a := l) (ds_cons (d_var rfl (dpx x1 _ _ hd)) ds_nil) hl) (k.up x1)
end
end Y
set_option Elab.async false
set_option linter.all false
set_option maxRecDepth 100000
set_option maxHeartbeats 4000000
set_option pp.maxSteps 600
namespace Y
open PySem L2 Evl
/-! ## what the law of the names says -/
theorem names_ok : ∀ {n : Nat} {e : Sm}, okSm n e → ∀ s ∈ namesS e, nameStr s = true
  | _, .num _, _, s, h => by cases h
  | 0, .nam z, h, s, hs => by rw [List.mem_singleton.mp hs]; exact h
  | _ + 1, .nam z, h, s, hs => by rw [List.mem_singleton.mp hs]; exact h
  | n + 1, .op w a b, h, s, hs => by
    rcases List.mem_append.mp hs with q | q
    · exact names_ok h.2.1 s q
    · exact names_ok h.2.2 s q
  | n + 1, .ite t a b, h, s, hs => by
    rcases List.mem_append.mp hs with q | q
    · exact names_ok h.1 s q
    · rcases List.mem_append.mp q with q | q
      · exact names_ok h.2.1 s q
      · exact names_ok h.2.2 s q
theorem addN_sub (mine : List Str) : ∀ (l found : List Str) (s : Str), s ∈ addN mine found l → s ∈ found ∨ s ∈ l
  | [], _, _, h => .inl h
  | z :: r, found, s, h => by
    rcases addN_sub mine r _ s h with q | q
    · split at q
      · exact .inl q
      · rcases List.mem_append.mp q with q | q
        · exact .inl q
        · rw [List.mem_singleton.mp q]; exact .inr List.mem_cons_self
    · exact .inr (List.mem_cons_of_mem _ q)
theorem reads_ok : ∀ (l : List Rw) (found mine : List Str), (∀ r ∈ l, okRw r) → (∀ s ∈ found, nameStr s = true) → ∀ s ∈ readsR l found mine, nameStr s = true
  | [], _, _, _, h, s, hs => h s hs
  | r :: l, found, mine, ho, h, s, hs => by
    refine reads_ok l _ _ (fun x hx => ho x (List.mem_cons_of_mem _ hx)) (fun z hz => ?_) s hs
    rcases addN_sub _ _ _ z hz with q | q
    · exact h z q
    · exact names_ok (okRw_sum (ho r List.mem_cons_self)) z q
theorem sets_ok {l : List Rw} (h : ∀ r ∈ l, okRw r) : ∀ s ∈ setsR l, nameStr s = true := fun s hs => by
  obtain ⟨r, hr, q⟩ := List.mem_flatMap.mp hs
  cases r with
  | set x e => rw [List.mem_singleton.mp q]; exact (h _ hr).1
  | shw e => cases q
theorem shp_names {l : List Str} (h : ∀ s ∈ l, nameStr s = true) : shp (.list (l.map .str)) := shp_lst.mpr fun d hd => by
  obtain ⟨s, hs, rfl⟩ := List.mem_map.mp hd
  exact ⟨(name_ok (h s hs)).2, Nat.zero_le _⟩
theorem eqv_shp {d : PyData} (h : shp d) : PyData.eqv d d = true := SeqAt.eqv_refl d (shp_iff.mp h).1
def isShow : PyData → Bool
  | .tuple (.str w :: _) => decide (w = "show")
  | _ => false
def isShw : Rw → Bool
  | .set _ _ => false
  | .shw _ => true
theorem show_data : ∀ l : List Rw, ((l.map encR).filter isShow).map (fun d => d) = (l.filter isShw).map encR
  | [] => rfl
  | .set x e :: l => show_data l
  | .shw e :: l => congrArg (encR (.shw e) :: ·) (show_data l)
theorem show_sets : ∀ l : List Rw, setsR (l.filter isShw) = []
  | [] => rfl
  | .set x e :: l => show_sets l
  | .shw e :: l => show_sets l
theorem show_ok {l : List Rw} (h : okSrc l) : okSrc (l.filter isShw) := ⟨Nat.le_trans (List.length_filter_le _ _) h.1, fun r hr => h.2 r (List.mem_filter.mp hr).1⟩
end Y
set_option Elab.async false
set_option linter.all false
set_option maxRecDepth 100000
set_option maxHeartbeats 4000000
set_option pp.maxSteps 600
namespace Y
open PySem L2 Evl
section
variable {P : Program} {w : World} {K : PySem.W.Frag} {mg : Str → Option Value} {base : Heap}
local macro_rules | `(tactic| clean_wf) => `(tactic| first | exact ⟨by decide, by decide⟩ | (show (0 : Int) < _; decide) | exact .inr ⟨by decide, by decide⟩ | exact .inl ⟨by decide, by decide⟩ | (show (0 : Int) < _; omega))
local macro_rules | `(tactic| simp_wf) => `(tactic| (repeat (first | assumption | exact Ex.refl _ | refine Ex.trans (by assumption) ?_)))
local macro_rules | `(tactic| array_mem_dec) => `(tactic| first | assumption | exact Dp.int _ | exact Dp.str _ | exact Dp.bl _ | exact Dp.non | (refine dpx ?_ _ _ (by assumption); simp_wf))
local macro_rules | `(tactic| sizeOf_list_dec) => `(tactic| first
  | ((with_reducible show EvD _ (tVar _) _ _ _); exact d_var rfl (by array_mem_dec))
  | ((with_reducible show EvD _ (tC _) _ _ _); first | exact d_int | exact d_str | exact d_bl | exact d_non)
  | ((with_reducible show EvD _ (tOp (rIx _) _ _) _ _ _); exact d_ixA (by sizeOf_list_dec) (by sizeOf_list_dec) (by first | exact .t at_0 | exact .t at_1 | exact .t at_2 | exact .l at_0 | exact .l at_1 | exact .l at_2 | exact .t at_3 | exact .l at_3 | exact .t at_m2 | exact .t at_m3))
  | ((with_reducible show EvD _ (tOp (rI0 _) _ _) _ _ _); exact d_I0 (by sizeOf_list_dec) (by sizeOf_list_dec) (by intro _; first | exact Dp.int _ | exact Dp.bl _))
  | ((with_reducible show EvD _ (tOp (rI _ _) _ _) _ _ _); exact d_I (by sizeOf_list_dec) (by sizeOf_list_dec) (by clean_wf) (by intro _; exact Dp.int _))
  | ((with_reducible show EvD _ (tOp rEq _ _) _ _ _); exact (d_eqA (by sizeOf_list_dec) (by sizeOf_list_dec) (by constructor)).is (by rfl))
  | ((with_reducible show EvD _ (tOp rNe _ _) _ _ _); exact (d_neA (by sizeOf_list_dec) (by sizeOf_list_dec) (by constructor)).is (by rfl))
  | ((with_reducible show EvD _ (tCB (rIsi _) (tCons _ (tCons (tC (.ty "str")) _))) _ _ _); exact (d_isiS (by sizeOf_list_dec)).is (by rfl))
  | ((with_reducible show EvD _ (tCB (rIsi _) (tCons _ (tCons (tC (.ty "tuple")) _))) _ _ _); exact (d_isiT (by sizeOf_list_dec)).is (by rfl))
  | ((with_reducible show EvD _ (tCB (rIsi _) (tCons _ (tCons (tC (.ty "int")) _))) _ _ _); exact (d_isiI (by sizeOf_list_dec)).is (by rfl))
  | ((with_reducible show EvD _ (tCB (rIsi _) (tCons _ (tCons (tC (.ty "bool")) _))) _ _ _); exact (d_isiB (by sizeOf_list_dec)).is (by rfl))
  | ((with_reducible show EvD _ (tCB (rIsi _) (tCons _ (tCons (tC (.ty "list")) _))) _ _ _); exact (d_isiL (by sizeOf_list_dec)).is (by rfl))
  | ((with_reducible show EvD _ (tTup _) _ _ _); exact d_tup (by decreasing_trivial_pre_omega) (Nat.le_of_ble_eq_true rfl))
  | ((with_reducible show EvD _ (tLst _) _ _ _); exact (l_lst (by decreasing_trivial_pre_omega) (Nat.le_of_ble_eq_true rfl)).dat)
  | ((with_reducible show EvD _ (tUn _ _) _ _ _); exact d_neg (by sizeOf_list_dec))
  | ((with_reducible show EvD _ (tNotV _) _ _ _); exact (d_not (by sizeOf_list_dec)).is (by rfl))
  | ((with_reducible show EvD _ (tChain _ _ _ _ _) _ _ _); exact (d_chain (by sizeOf_list_dec) (by sizeOf_list_dec) (by sizeOf_list_dec)).is (by rfl))
  | ((with_reducible show EvD _ (tCB _ (tCons _ tNil)) _ _ _); exact (d_lenA (by sizeOf_list_dec) (by first | constructor | (constructor; assumption))).is (by rfl)))
local macro_rules | `(tactic| array_get_dec) => `(tactic| first
  | ((with_reducible show EvT (tTest _) _ _ _); exact d_tTest (K := ‹PySem.W.Frag›) (by sizeOf_list_dec))
  | ((with_reducible show EvT (tB _) _ _ _); exact d_tB (K := ‹PySem.W.Frag›) (by sizeOf_list_dec))
  | ((with_reducible show EvT (tNot _) _ _ _); exact et_is (et_not (by array_get_dec)) (by rfl))
  | exact et_is (t_truA (by sizeOf_list_dec) (by constructor)) (by rfl))
local macro_rules | `(tactic| decreasing_trivial_pre_omega) => `(tactic| first | exact ds_nil | exact ds_cons (by sizeOf_list_dec) (by decreasing_trivial_pre_omega))
def spLNames (K : PySem.W.Frag) (n : Nat) : Sp := spN K (fun e : Sm => [encS e]) (okSm n) (fun e => (namesS e).map .str)
def spLNamesP (K : PySem.W.Frag) : Nat → Sp
  | 0 => fun _ _ _ _ => False
  | n + 1 => spLNames K n
theorem ok_law_names_ (T : Txt K mg) (n : Nat) (hn : n ≤ 6) (ok_law_names : FnOk P w K mg base CX0 (n + 1) T.law_names.f T.law_names.fd ["_law_some"] (spLNamesP K n)) : FnOk P w K mg base CX0 (n + 2) T.law_names.f T.law_names.fd ["_law_some"] (spLNames K n) := by
  refine T.law_names.h.ok sc_law_names (spN_len fun _ => rfl) (fun cdv A outer s H vs Q E hr h => ?_)
  obtain ⟨e, hvs, hl, k⟩ := h
  obtain ⟨v, rfl, hd⟩ := dp1 hvs
  have nd := sc_law_names.nd
  have hr_law_names : Room (n + 1) _ := hr
  refine ⟨_, (pss_cons (ps_if (pt_val (pe_callB call_isi (by rfl) T.b_isinstance (by decide +kernel) (pa_cons (pv 0) (pa_cons (pe_bltn (v := .ty "str") (u := .type "str") (by rfl) T.b_str (by decide +kernel) rfl) pa_nil)))) (pss_one (ps_ret (pe_lst (pa_cons (pv 0) pa_nil)))) pss_nil)
      (pss_cons (ps_set (i := 1) nd rfl (.inl rfl) (pe_lst pa_nil))
      (pss_cons (ps_if (pt_val (pe_callB call_isi (by rfl) T.b_isinstance (by decide +kernel) (pa_cons (pv 0) (pa_cons (pe_bltn (v := .ty "tuple") (u := .type "tuple") (by rfl) T.b_tuple (by decide +kernel) rfl) pa_nil)))) (pss_one (ps_for PassesOwn.never rfl (pi_tup (pe_slice sl_tupA (pv 0) (po_some pe_int) po_none)) (pg_name (i := 2) nd rfl (.inl rfl))
      (pss_one (ps_set (i := 1) nd rfl (.inl rfl) (pe_op op_cat (pv 1) (pe_call ok_law_names hr_law_names (by rfl) T.law_names.g T.law_names.h.kp T.law_names.b .nil pass0 (pa_cons (pv 2) pa_nil))))))) pss_nil)
      (pss_one (ps_ret (pv 1)))))), ?_⟩
  try dsimp only [cxOf, Cx.nox]
  rcases sm_cases e with ⟨i, rfl⟩ | ⟨z, rfl⟩ | ⟨w', ps, e1, e2, e3, e4⟩
  · refine q_if (b := false) (by array_get_dec) (fun hb => nomatch hb) (fun _ H1 x1 => ?_)
    refine q_nil fun p hp => ?_
    have x2 := x1.trans (Ex.new hp (o := .lst []))
    have hd1 := dpx x2 _ _ hd
    refine q_if (b := false) (by array_get_dec) (fun hb => nomatch hb) (fun _ H2 x3 => ?_)
    exact ⟨_, rfl, (k.up x1) p [] H2 hp ((Ex.new hp).trans x3) (x3 _ _ upd_same) .nil⟩
  · refine q_if (b := true) (by array_get_dec) (fun _ H1 x1 => ?_) (fun hb => nomatch hb)
    exact s_retN (n_lst (ds_cons (by sizeOf_list_dec) ds_nil) (Nat.le_of_ble_eq_true rfl)) (k.up x1)
  · rw [e1] at hd
    obtain ⟨m, rfl, hps⟩ := e4 n hl
    have few := namesS_few hl hn
    rw [e2] at few
    refine q_if (b := false) (by array_get_dec) (fun hb => nomatch hb) (fun _ H1 x1 => ?_)
    refine q_nil fun p hp => ?_
    have x2 := x1.trans (Ex.new hp (o := .lst []))
    have hd1 := dpx x2 _ _ hd
    have im : immA (ps.map encS) = true := immA_iff.mpr fun d hd => by obtain ⟨a, _, rfl⟩ := List.mem_map.mp hd; exact imm_encS a
    have k1 := k.up x1
    refine q_if (b := true) (by array_get_dec) (fun _ H2 x3 => ?_) (fun hb => nomatch hb)
    have hd2 := dpx x3 _ _ hd1
    refine q_forI (D := _) (tz := _) (d_slT1 (by sizeOf_list_dec)) im
      (fun H3 i σ' H' => ∃ (p : Addr) (o : Option V), σ' = [some v, some (.ref p), o] ∧ Ex H3 H' ∧ H1 p = none ∧ Ex H1 H' ∧ H' p = some (.lst (((ps.take i).flatMap namesS).map V.str)))
      (fun H3 x4 => ⟨p, none, rfl, Ex.refl _, hp, (Ex.new hp).trans (x3.trans x4), x4 _ _ (x3 _ _ upd_same)⟩) (fun _ _ _ _ ⟨_, _, _, h, _⟩ => im_ex h) ?_ ?_
    · rintro H3 i d w2 σ' H' x4 hi ⟨p, o, rfl, i1, hn, i2, i3⟩ hw
      obtain ⟨a, ha, rfl, hm⟩ := map_at hi
      have le1 := flat_take ps namesS (i + 1)
      rw [flat_snoc ha, List.length_append] at le1
      refine n_cat (l_var (ds := ((ps.take i).flatMap namesS).map .str) rfl ⟨p, _, rfl, i3, dp_strsL _⟩) (n_call (enc := fun e : Sm => [encS e]) (a := a) (ds_cons (d_var rfl hw) ds_nil) (hps a hm)).lst (by rw [List.length_map, List.length_map]; omega) H' (Ex.refl _) _ fun p2 vs H4 hp2 x5 hv hvs => ?_
      rw [← List.map_append, ← flat_snoc ha] at hvs
      obtain rfl := dp_strs hvs
      exact ⟨p2, some w2, rfl, i1.trans x5, ex_none i2 hp2, i2.trans x5, hv⟩
    · rintro H3 σ' H' x4 ⟨p, o, rfl, i1, hn, i2, i3⟩
      rw [List.length_map, List.take_length] at i3
      exact ⟨_, rfl, k1 p _ H' hn i2 i3 (by dsimp only; rw [e2]; exact dp_strsL _)⟩
theorem ok_law_names (T : Txt K mg) : ∀ n : Nat, n ≤ 6 → FnOk P w K mg base CX0 (n + 2) T.law_names.f T.law_names.fd ["_law_some"] (spLNames K n)
  | 0, h => ok_law_names_ T 0 h fn_never
  | n + 1, h => ok_law_names_ T (n + 1) h (ok_law_names T n (by omega))
def spLaw (K : PySem.W.Frag) : Sp := fun vs H Q _ => ∃ (a : Addr) (ns : List Int), vs = [.ref a] ∧ SqL K H a (ns.map V.int) ∧ ns.length ≤ 63 ∧ ∀ H', Q (.bl true) H'
theorem dp_intsL {K : PySem.W.Frag} {H : Hp} : ∀ ns : List Int, DpAll K H (ns.map V.int) (ns.map PyData.int)
  | [] => .nil
  | n :: r => .cons (.int n) (dp_intsL r)
theorem ok_law (T : Txt K mg) : FnOk P w K mg base CX0 15 T.law.f T.law.fd ["_law_script"] (spLaw K) := by
  refine T.law.h.ok sc_law (fun vs H Q E h => by obtain ⟨a, ns, rfl, _⟩ := h; rfl) (fun cdv A outer s H vs Q E hr h => ?_)
  obtain ⟨a, ns, rfl, hS, hlen, k⟩ := h
  have nd := sc_law.nd
  have hu64 := hu64_of hr
  have ok_law_cell := ok_law_cell (P := P) (w := w) (base := base) T
  have hr_law_cell : Room 1 _ := hr.mono (by omega)
  have ok_law_seed := ok_law_seed (P := P) (w := w) (base := base) T
  have hr_law_seed : Room 1 _ := hr.mono (by omega)
  have ok_law_source := ok_law_source (P := P) (w := w) (base := base) T
  have hr_law_source : Room 9 _ := hr.mono (by omega)
  have ok_law_names := ok_law_names (P := P) (w := w) (base := base) T 6 (Nat.le_refl 6)
  have hr_law_names : Room 8 _ := hr.mono (by omega)
  have ok_reads := ok_readsG (P := P) (w := w) (base := base) T
  have hr_reads : Room 13 _ := hr.mono (by omega)
  have ok_sets := ok_setsG (P := P) (w := w) (base := base) T
  have hr_sets : Room 13 _ := hr.mono (by omega)
  have hd : Dp K H (.ref a) (.list (ns.map .int)) := .lst hS (dp_intsL ns)
  refine ⟨_, (pss_cons (ps_set (i := 1) nd rfl (.inl rfl) (pe_call ok_law_source hr_law_source (by rfl) T.law_source.g T.law_source.h.kp T.law_source.b .nil pass0 (pa_cons (pe_call ok_law_seed hr_law_seed (by rfl) T.law_seed.g T.law_seed.h.kp T.law_seed.b .nil pass0 (pa_cons (pe_call ok_law_cell hr_law_cell (by rfl) T.law_cell.g T.law_cell.h.kp T.law_cell.b .nil pass0 (pa_cons (pv 0) (pa_cons pe_int pa_nil))) (pa_cons pe_int pa_nil))) pa_nil)))
      (pss_cons (ps_set (i := 2) nd rfl (.inl rfl) (pe_lst pa_nil))
      (pss_cons (ps_set (i := 3) nd rfl (.inl rfl) (pe_lst pa_nil))
      (pss_cons (ps_for PassesOwn.never rfl (pi_tup (pv 1)) (pg_name (i := 4) nd rfl (.inl rfl))
      (pss_cons (ps_for PassesOwn.never rfl (pi_list (pe_call ok_law_names hr_law_names (by rfl) T.law_names.g T.law_names.h.kp T.law_names.b .nil pass0 (pa_cons (pe_ix ix_seq (pv 4) (pe_un un_neg pe_int) (fun _ _ => rfl)) pa_nil))) (pg_name (i := 5) nd rfl (.inl rfl))
      (pss_one (ps_if (pt_cmpR op_notIn_seq (pv 5) (pe_op op_cat (pv 2) (pv 3)) rfl) (pss_one (ps_expr (pe_bm PySem.F.plainAttrs_list PySem.F.slot_list_append PySem.F.type_list_append mt_append (pv 3) (pa_cons (pv 5) pa_nil)))) pss_nil)))
      (pss_one (ps_if (pt_cmpR op_eq (pe_ix ix_seq (pv 4) pe_int (fun _ _ => rfl)) pe_str (nomark _)) (pss_one (ps_expr (pe_bm PySem.F.plainAttrs_list PySem.F.slot_list_append PySem.F.type_list_append mt_append (pv 2) (pa_cons (pe_ix ix_seq (pv 4) pe_int (fun _ _ => rfl)) pa_nil)))) pss_nil))))
      (pss_cons (ps_if (PW.pt (pw_or (pt_cmpR (op_neD hu64) (pe_call ok_reads hr_reads (by rfl) T.reads.g T.reads.h.kp T.reads.b .nil pass0 (pa_cons (pv 1) pa_nil)) (pv 3) (nomark _)) (pw_or1 (pt_cmpR (op_neD hu64) (pe_call ok_sets hr_sets (by rfl) T.sets.g T.sets.h.kp T.sets.b .nil pass0 (pa_cons (pv 1) pa_nil)) (pe_callB (cr_sortT rfl) (by rfl) T.b_sorted (by decide +kernel) (pa_cons (pe_callTy (cr_setT rfl) (by rfl) T.b_set (by decide +kernel) (pa_cons (pv 2) pa_nil)) pa_nil)) (nomark _))))) (pss_one (ps_ret pe_bl)) pss_nil)
      (pss_cons (ps_set (i := 6) nd rfl (.inl rfl) (pe_callTy call_tuple_of (by rfl) T.b_tuple (by decide +kernel) (pa_cons (pe_lc (own := [("_law_row", 4)]) rfl nd (pi_tup (pv 1)) (blkOk_by (own := [("_law_row", 4)]) (N := N_law) (sc := defScope s_law) (by decide +kernel)) (fun _ _ _ _ _ => (pg_name (i := 4) nd rfl (.inl rfl))) (fun _ _ _ _ _ => pts_one (pt_cmpR op_eq (pe_ix (r := rIx K) ix_seq (pv 4) pe_int (fun _ _ => rfl)) pe_str (nomark _))) (fun _ _ _ _ _ => (pv 4))) pa_nil)))
      (pss_one (ps_ret (pe_and (pe_cmpR (op_eqD hu64) (pe_call ok_sets hr_sets (by rfl) T.sets.g T.sets.h.kp T.sets.b .nil pass0 (pa_cons (pv 6) pa_nil)) (pe_lst pa_nil) (nomark _)) (pe_and (pe_cmpR (op_eqD hu64) (pe_call ok_reads hr_reads (by rfl) T.reads.g T.reads.h.kp T.reads.b .nil pass0 (pa_cons (pe_tup pa_nil) pa_nil)) (pe_lst pa_nil) (nomark _)) (pe_one (pe_callB call_isi (by rfl) T.b_isinstance (by decide +kernel) (pa_cons (pe_call ok_reads hr_reads (by rfl) T.reads.g T.reads.h.kp T.reads.b .nil pass0 (pa_cons (pv 6) pa_nil)) (pa_cons (pe_bltn (v := .ty "list") (u := .type "list") (by rfl) T.b_list (by decide +kernel) rfl) pa_nil)))))))))))))), ?_⟩
  try dsimp only [cxOf, Cx.nox]
  refine q_asgD (d_call (enc := fun a : Int => [.int a]) (a := lawSeed (ns.getD 0 0) 0) (ds_cons (d_call (enc := fun a : Int × Int => [.int a.1, .int a.2]) (a := (ns.getD 0 0, 0)) (ds_cons (d_call (enc := fun a : List Int × Nat => [.list (a.1.map .int), .int a.2]) (a := (ns, 0)) (ds_cons (d_var rfl hd) (ds_cons d_int ds_nil)) (by show ns.length ≤ 1000; omega)) (ds_cons d_int ds_nil)) trivial) ds_nil) trivial) fun v H1 x1 hv => ?_
  have hl := ok_lawSource (lawSeed (ns.getD 0 0) 0)
  generalize lawSource (lawSeed (ns.getD 0 0) 0) = l at hv hl
  refine q_nil fun q hq => ?_
  refine q_nil fun p hp => ?_
  have pq : p ≠ q := fun e => by rw [e, upd_same] at hp; cases hp
  have x0 : Ex H1 (upd (upd H1 q (.lst [])) p (.lst [])) := (Ex.new hq).trans (Ex.new hp)
  have hd0 := dpx x0 _ _ hv
  have few : ∀ i, (readsR (l.take i) [] []).length ≤ 5832 := fun i => by
    refine Nat.le_trans (readsR_len (l.take i) [] [] fun r hr => hl.2 r (List.mem_of_mem_take hr)) ?_
    have := hl.1
    rw [List.length_nil, List.length_take]
    omega
  have fewS : ∀ i, (setsR (l.take i)).length ≤ 8 := fun i => by
    refine Nat.le_trans (setsR_len _) ?_
    have := hl.1
    rw [List.length_take]
    omega
  refine q_forI (d_var rfl hd0) (immA_encR l)
    (fun H3 i σ' H' => ∃ o3 o4, σ' = [some (.ref a), some v, some (.ref q), some (.ref p), o3, o4, none] ∧ Im H3 H' ∧ Ex H1 H' ∧ H' p = some (.lst ((readsR (l.take i) [] []).map V.str)) ∧ H' q = some (.lst ((setsR (l.take i)).map V.str)))
    (fun H3 x4 => ⟨none, none, rfl, Im.refl _, x0.trans x4, x4 _ _ upd_same, x4 _ _ (by rw [upd_ne pq.symm, upd_same]; rfl)⟩) (fun _ _ _ _ ⟨_, _, _, h, _⟩ => h) ?_ ?_
  · rintro H3 i d w3 σ' H' x4 hi ⟨o3, o4, rfl, i1, i2, i3, i4⟩ hw
    obtain ⟨r, hr, rfl, hm⟩ := map_at hi
    have okr := okRw_sum (hl.2 r hm)
    have few2 := namesS_few okr (Nat.le_refl 6)
    have fi := few i
    have fs := fewS i
    refine q_forN (l := namesS (rowSum r)) (n_call (enc := fun e : Sm => [encS e]) (a := rowSum r) (ds_cons (by
        obtain ⟨ds, e1, e2⟩ := row_last r
        rw [e1] at hw
        exact d_ixT (d_var rfl hw) (d_neg d_int) e2) ds_nil) okr)
      (fun b j σ2 H2 => ∃ o5, σ2 = [some (.ref a), some v, some (.ref q), some (.ref p), some w3, o5, none] ∧ Im H' H2 ∧ Ex H1 H2 ∧ H2 p = some (.lst ((addN (setsR (l.take i)) (readsR (l.take i) [] []) ((namesS (rowSum r)).take j)).map V.str)) ∧ H2 q = some (.lst ((setsR (l.take i)).map V.str)) ∧ H2 b = some (.lst ((namesS (rowSum r)).map V.str)))
      (fun b H2 x5 hb h2 => ⟨o4, rfl, im_ex x5, i2.trans x5, x5 _ _ i3, x5 _ _ i4, h2⟩) (fun _ _ _ _ ⟨_, _, _, _, _, _, h⟩ => h) ?_ ?_
    · rintro b j z σ2 H2 hb hz ⟨o5, rfl, j1, j2, j3, j4, j5⟩
      have bp : b ≠ p := fun e => by rw [e, i3] at hb; cases hb
      have len := addN_len (setsR (l.take i)) ((namesS (rowSum r)).take j) (readsR (l.take i) [] [])
      rw [List.length_take] at len
      refine s_ifD (b := !decide (z ∈ setsR (l.take i) ++ addN (setsR (l.take i)) (readsR (l.take i) [] []) ((namesS (rowSum r)).take j)))
        (d_tTest (d_ninV (K := K) (d_var rfl (.str z)) ((l_cat (K := K) (l_var rfl ⟨_, _, rfl, j4, dp_strsL _⟩) (l_var rfl ⟨_, _, rfl, j3, dp_strsL _⟩) (by rw [List.length_map, List.length_map]; omega)).dat.is (by rw [← List.map_append])))) (fun hb2 H4 x5 => ?_) (fun hb2 H4 x5 => ?_)
      · refine s_app rfl (x5 _ _ j3) (d_var rfl (.str z)) (by rw [List.length_map]; omega) fun y H5 x6 hy => ?_
        obtain rfl := dp_str hy
        have x56 := x5.trans x6
        refine ⟨_, rfl, (j1.trans (im_ex x56)).trans (im_lst (x56 _ _ j3)), Ex.mut (j2.trans x56) (ex_none (Ex.new hq) hp), ?_, by rw [upd_ne pq.symm]; exact x56 _ _ j4, by rw [upd_ne bp]; exact x56 _ _ j5⟩
        rw [upd_same, take_snoc hz, addN_snoc, if_neg (by simpa using hb2), List.map_append]
        rfl
      · refine ⟨_, rfl, j1.trans (im_ex x5), j2.trans x5, ?_, x5 _ _ j4, x5 _ _ j5⟩
        rw [take_snoc hz, addN_snoc, if_pos (by
          rw [Bool.not_eq_false', decide_eq_true_eq] at hb2
          exact List.mem_append.mp hb2)]
        exact x5 _ _ j3
    · rintro b σ2 H2 hb ⟨o5, rfl, j1, j2, j3, j4, j5⟩
      rw [List.take_length] at j3
      have e3 : readsR (l.take (i + 1)) [] [] = addN (setsR (l.take i)) (readsR (l.take i) [] []) (namesS (rowSum r)) := by rw [take_snoc hr, readsR_snoc]; rfl
      have e4 : setsR (l.take (i + 1)) = setsR (l.take i) ++ rowSets r := flat_snoc hr
      have hw2 := dpi j1 _ _ (imm_encR r) hw
      cases r with
      | set x e =>
        refine s_ifD (b := true) (et_is (d_tTest (d_eqS (r := "set") (d_ixT (d_var rfl hw2) d_int at_0) d_str)) rfl) (fun _ H4 x5 => ?_) (fun hb => nomatch hb)
        refine s_app rfl (x5 _ _ j4) (d_ixT (d_var rfl (dpx x5 _ _ hw2)) d_int at_1) (by rw [List.length_map]; omega) fun y H5 x6 hy => ?_
        obtain rfl := dp_str hy
        have x56 := x5.trans x6
        refine ⟨_, _, rfl, ((i1.trans j1).trans (im_ex x56)).trans (im_lst (x56 _ _ j4)), Ex.mut (j2.trans x56) hq, by rw [upd_ne pq, e3]; exact x56 _ _ j3, ?_⟩
        rw [upd_same, e4, List.map_append]
        rfl
      | shw e =>
        refine s_ifD (b := false) (et_is (d_tTest (d_eqS (r := "set") (d_ixT (d_var rfl hw2) d_int at_0) d_str)) rfl) (fun hb => nomatch hb) (fun _ H4 x5 => ?_)
        exact ⟨_, _, rfl, (i1.trans j1).trans (im_ex x5), j2.trans x5, by rw [e3]; exact x5 _ _ j3, by rw [e4, show rowSets (.shw e) = [] from rfl, List.append_nil]; exact x5 _ _ j4⟩
  · rintro H3 σ' H' x4 ⟨o3, o4, rfl, i1, i2, i3, i4⟩
    rw [List.length_map, List.take_length] at i3 i4
    have hv2 := dpx i2 _ _ hv
    have sR := shp_names (reads_ok l [] [] hl.2 (fun _ h => nomatch h))
    have sS := shp_names (l := setS (setsR l)) (fun s hs => sets_ok hl.2 s (setS_mem.mp hs))
    have fs := fewS l.length
    rw [List.take_length] at fs
    refine q_if (b := false) (t_or0 (et_is (d_tTest (d_neD (K := K) (n_call (enc := fun l : List Rw => [enc l]) (a := l) (ds_cons (d_var rfl hv2) ds_nil) hl).lst.dat (d_var rfl (.lst (sq_of i3) (dp_strsL _))) sR sR)) (by rw [eqv_shp sR]; rfl))
      (et_is (d_tTest (d_neD (K := K) (d_call (enc := fun l : List Rw => [enc l]) (a := l) (ds_cons (d_var rfl hv2) ds_nil) hl) (d_sortSet (d_var rfl (.lst (sq_of i4) (dp_strsL _))) (by omega)) sS sS)) (by rw [eqv_shp sS]; rfl))) (fun hb => nomatch hb) (fun _ H4 x5 => ?_)
    have hl2 := show_ok hl
    refine q_asgD (d_tupL (d_lcT isShow (fun d => d) (d_var rfl (dpx x5 _ _ hv2)) (by rw [List.length_map]; have := hl.1; omega) (fun _ => rfl) (fun d hm v1 H5 x6 p => ?_) (fun d hm hp v1 H0 H5 x6 x7 p => evg_var rfl p))) fun v6 H5 x6 h6 => ?_
    · obtain ⟨r, _, rfl⟩ := List.mem_map.mp hm
      cases r with
      | set x e => exact d_tTest (d_eqS (r := "show") (d_ixT (d_var rfl p) d_int at_0) d_str)
      | shw e => exact d_tTest (d_eqS (r := "show") (d_ixT (d_var rfl p) d_int at_0) d_str)
    · rw [show_data] at h6
      have h6' : Dp K H5 v6 (enc (l.filter isShw)) := h6
      have nS : shp (.list []) := shp_lst.mpr fun _ h => nomatch h
      refine s_ret (d_and1 ((d_eqD (K := K) ((d_call (enc := fun l : List Rw => [enc l]) (res := fun l => .list ((setS (setsR l)).map .str)) (a := l.filter isShw) (ds_cons (d_var rfl h6') ds_nil) hl2).is (y := .list []) (by show PyData.list ((setS (setsR (l.filter isShw))).map .str) = _; rw [show_sets]; simp [setS, onceR])) (d_lst ds_nil (by decide)) nS nS).is rfl)
        (d_and1 ((d_eqD (K := K) (n_call (enc := fun l : List Rw => [enc l]) (res := fun l => (readsR l [] []).map .str) (a := []) (ds_cons (d_tup ds_nil (by decide)) ds_nil) ⟨by decide, fun _ h => nomatch h⟩).lst.dat (d_lst ds_nil (by decide)) nS nS).is rfl)
          (d_isiL (n_call (enc := fun l : List Rw => [enc l]) (a := l.filter isShw) (ds_cons (d_var rfl h6') ds_nil) hl2).lst.dat))) fun v7 H6 _ p7 => ?_
      cases p7
      exact k H6
end
end Y
set_option Elab.async false
set_option linter.all false
set_option maxRecDepth 100000
set_option maxHeartbeats 0
namespace Y
open PySem L2 Evl
/-- a tuple of texts that the top has written -/
def KTup (o : Obj) (l : List Str) : Prop := ∃ (its : Array Value) (n : Nat), o.cls = .type "tuple" ∧ o.data = .seq its n ∧ its.size ≤ sizeLine ∧ Vals (l.map V.str) its.toList
theorem ktup_sq {K : PySem.W.Frag} {H : Hp} {a : Addr} {o : Obj} {l : List Str} (h : K.lookup a = some o) (q : KTup o l) : SqT K H a (l.map V.str) := by
  obtain ⟨its, n, h1, h2, h3, h4⟩ := q
  exact .inr ⟨o, its, n, h, h1, h2, h3, h4⟩
theorem exm_own {K : PySem.W.Frag} {S : Addr} (h1 : PySem.W.subIn K (.ref S) (.type "BaseException") = some true) (h2 : PySem.W.isClsIn K S = true) (h3 : PySem.W.typeIn K (.ref S) = some (.type "type")) (h4 : PySem.W.subIn K (.ref S) (.ref S) = some true) :
    PySem.W.exmOne K (.ref S) (.ref S) = some true := by
  have e1 : (PySem.W.subIn K (.ref S) (.type "BaseException") == some true) = true := by rw [h1] <;> rfl
  have e2 : ((PySem.W.clsIn K S).isSome && PySem.W.typeIn K (.ref S) == some (.type "type")) = true := by
    have h2' : (PySem.W.clsIn K S).isSome = true := h2
    rw [h2', h3] <;> rfl
  show (if (PySem.W.subIn K (.ref S) (.type "BaseException") == some true) = true then (if ((PySem.W.clsIn K S).isSome && PySem.W.typeIn K (.ref S) == some (.type "type")) = true then PySem.W.subIn K (.ref S) (.ref S) else none) else none) = some true
  rw [if_pos e1, if_pos e2]
  exact h4
theorem all_mk {l : PySem.W.OpenLaw} {w : World} {K : PySem.W.Frag} {h : Heap} {mg : Str → Option Value} {fa : Addr} (X : K.In h) (G : h.Ns mainGlobals mg) (hfa : mg "law" = some (.ref fa))
    {f1 : Addr} {od1 an1 : Option Addr} {sl1 : Array (Option Value)} {oc1 kV1 dc1 pm1 cd1 ct1 : Value}
    {f2 : Addr} {od2 an2 : Option Addr} {sl2 : Array (Option Value)} {oc2 kV2 dc2 pm2 cd2 ct2 : Value}
    {f3 : Addr} {od3 an3 : Option Addr} {sl3 : Array (Option Value)} {oc3 kV3 dc3 pm3 cd3 ct3 : Value}
    {f4 : Addr} {od4 an4 : Option Addr} {sl4 : Array (Option Value)} {oc4 kV4 dc4 pm4 cd4 ct4 : Value}
    {f5 : Addr} {od5 an5 : Option Addr} {sl5 : Array (Option Value)} {oc5 kV5 dc5 pm5 cd5 ct5 : Value}
    {f6 : Addr} {od6 an6 : Option Addr} {sl6 : Array (Option Value)} {oc6 kV6 dc6 pm6 cd6 ct6 : Value}
    {f7 : Addr} {od7 an7 : Option Addr} {sl7 : Array (Option Value)} {oc7 kV7 dc7 pm7 cd7 ct7 : Value}
    {f8 : Addr} {od8 an8 : Option Addr} {sl8 : Array (Option Value)} {oc8 kV8 dc8 pm8 cd8 ct8 : Value}
    {f9 : Addr} {od9 an9 : Option Addr} {sl9 : Array (Option Value)} {oc9 kV9 dc9 pm9 cd9 ct9 : Value}
    {f10 : Addr} {od10 an10 : Option Addr} {sl10 : Array (Option Value)} {oc10 kV10 dc10 pm10 cd10 ct10 : Value}
    {f11 : Addr} {od11 an11 : Option Addr} {sl11 : Array (Option Value)} {oc11 kV11 dc11 pm11 cd11 ct11 : Value}
    {f12 : Addr} {od12 an12 : Option Addr} {sl12 : Array (Option Value)} {oc12 kV12 dc12 pm12 cd12 ct12 : Value}
    {f13 : Addr} {od13 an13 : Option Addr} {sl13 : Array (Option Value)} {oc13 kV13 dc13 pm13 cd13 ct13 : Value}
    {f14 : Addr} {od14 an14 : Option Addr} {sl14 : Array (Option Value)} {oc14 kV14 dc14 pm14 cd14 ct14 : Value}
    {f15 : Addr} {od15 an15 : Option Addr} {sl15 : Array (Option Value)} {oc15 kV15 dc15 pm15 cd15 ct15 : Value}
    {f16 : Addr} {od16 an16 : Option Addr} {sl16 : Array (Option Value)} {oc16 kV16 dc16 pm16 cd16 ct16 : Value}
    {f17 : Addr} {od17 an17 : Option Addr} {sl17 : Array (Option Value)} {oc17 kV17 dc17 pm17 cd17 ct17 : Value}
    {f18 : Addr} {od18 an18 : Option Addr} {sl18 : Array (Option Value)} {oc18 kV18 dc18 pm18 cd18 ct18 : Value}
    {v29 : Value}
    {v30 : Value}
    {v31 : Value}
    {v32 : Value}
    {t33 : Addr} {o33 : Obj}
    {t34 : Addr} {o34 : Obj}
    {C35 : Addr}
    (a1 : PySem.W.nsIn K mainGlobals "is_within" = some (some (.ref f1)))
    (l1 : K.lookup f1 = some ⟨oc1, od1, .func (PySem.W.fnOf "is_within" "is_within" (defArgs s_is_within) (defBody s_is_within) (defScope s_is_within) .none kV1 dc1 pm1 an1 cd1 ct1), sl1⟩)
    (c1 : PySem.W.codeIn K cd1 "is_within" = true)
    (k1 : PySem.W.keepIn K (.ref f1) = true)
    (a2 : PySem.W.nsIn K mainGlobals "is_name" = some (some (.ref f2)))
    (l2 : K.lookup f2 = some ⟨oc2, od2, .func (PySem.W.fnOf "is_name" "is_name" (defArgs s_is_name) (defBody s_is_name) (defScope s_is_name) .none kV2 dc2 pm2 an2 cd2 ct2), sl2⟩)
    (c2 : PySem.W.codeIn K cd2 "is_name" = true)
    (k2 : PySem.W.keepIn K (.ref f2) = true)
    (a3 : PySem.W.nsIn K mainGlobals "is_sum" = some (some (.ref f3)))
    (l3 : K.lookup f3 = some ⟨oc3, od3, .func (PySem.W.fnOf "is_sum" "is_sum" (defArgs s_is_sum) (defBody s_is_sum) (defScope s_is_sum) .none kV3 dc3 pm3 an3 cd3 ct3), sl3⟩)
    (c3 : PySem.W.codeIn K cd3 "is_sum" = true)
    (k3 : PySem.W.keepIn K (.ref f3) = true)
    (a4 : PySem.W.nsIn K mainGlobals "is_row" = some (some (.ref f4)))
    (l4 : K.lookup f4 = some ⟨oc4, od4, .func (PySem.W.fnOf "is_row" "is_row" (defArgs s_is_row) (defBody s_is_row) (defScope s_is_row) .none kV4 dc4 pm4 an4 cd4 ct4), sl4⟩)
    (c4 : PySem.W.codeIn K cd4 "is_row" = true)
    (k4 : PySem.W.keepIn K (.ref f4) = true)
    (a5 : PySem.W.nsIn K mainGlobals "is_source" = some (some (.ref f5)))
    (l5 : K.lookup f5 = some ⟨oc5, od5, .func (PySem.W.fnOf "is_source" "is_source" (defArgs s_is_source) (defBody s_is_source) (defScope s_is_source) .none kV5 dc5 pm5 an5 cd5 ct5), sl5⟩)
    (c5 : PySem.W.codeIn K cd5 "is_source" = true)
    (k5 : PySem.W.keepIn K (.ref f5) = true)
    (a6 : PySem.W.nsIn K mainGlobals "look" = some (some (.ref f6)))
    (l6 : K.lookup f6 = some ⟨oc6, od6, .func (PySem.W.fnOf "look" "look" (defArgs s_look) (defBody s_look) (defScope s_look) .none kV6 dc6 pm6 an6 cd6 ct6), sl6⟩)
    (c6 : PySem.W.codeIn K cd6 "look" = true)
    (k6 : PySem.W.keepIn K (.ref f6) = true)
    (a7 : PySem.W.nsIn K mainGlobals "names_in" = some (some (.ref f7)))
    (l7 : K.lookup f7 = some ⟨oc7, od7, .func (PySem.W.fnOf "names_in" "names_in" (defArgs s_names_in) (defBody s_names_in) (defScope s_names_in) .none kV7 dc7 pm7 an7 cd7 ct7), sl7⟩)
    (c7 : PySem.W.codeIn K cd7 "names_in" = true)
    (k7 : PySem.W.keepIn K (.ref f7) = true)
    (a8 : PySem.W.nsIn K mainGlobals "sets_of" = some (some (.ref f8)))
    (l8 : K.lookup f8 = some ⟨oc8, od8, .func (PySem.W.fnOf "sets_of" "sets_of" (defArgs s_sets_of) (defBody s_sets_of) (defScope s_sets_of) .none kV8 dc8 pm8 an8 cd8 ct8), sl8⟩)
    (c8 : PySem.W.codeIn K cd8 "sets_of" = true)
    (k8 : PySem.W.keepIn K (.ref f8) = true)
    (a9 : PySem.W.nsIn K mainGlobals "reads_of" = some (some (.ref f9)))
    (l9 : K.lookup f9 = some ⟨oc9, od9, .func (PySem.W.fnOf "reads_of" "reads_of" (defArgs s_reads_of) (defBody s_reads_of) (defScope s_reads_of) .none kV9 dc9 pm9 an9 cd9 ct9), sl9⟩)
    (c9 : PySem.W.codeIn K cd9 "reads_of" = true)
    (k9 : PySem.W.keepIn K (.ref f9) = true)
    (a10 : PySem.W.nsIn K mainGlobals "sets" = some (some (.ref f10)))
    (l10 : K.lookup f10 = some ⟨oc10, od10, .func (PySem.W.fnOf "sets" "sets" (defArgs s_sets) (defBody s_sets) (defScope s_sets) .none kV10 dc10 pm10 an10 cd10 ct10), sl10⟩)
    (c10 : PySem.W.codeIn K cd10 "sets" = true)
    (k10 : PySem.W.keepIn K (.ref f10) = true)
    (a11 : PySem.W.nsIn K mainGlobals "reads" = some (some (.ref f11)))
    (l11 : K.lookup f11 = some ⟨oc11, od11, .func (PySem.W.fnOf "reads" "reads" (defArgs s_reads) (defBody s_reads) (defScope s_reads) .none kV11 dc11 pm11 an11 cd11 ct11), sl11⟩)
    (c11 : PySem.W.codeIn K cd11 "reads" = true)
    (k11 : PySem.W.keepIn K (.ref f11) = true)
    (a12 : PySem.W.nsIn K mainGlobals "_law_cell" = some (some (.ref f12)))
    (l12 : K.lookup f12 = some ⟨oc12, od12, .func (PySem.W.fnOf "_law_cell" "_law_cell" (defArgs s_law_cell) (defBody s_law_cell) (defScope s_law_cell) .none kV12 dc12 pm12 an12 cd12 ct12), sl12⟩)
    (c12 : PySem.W.codeIn K cd12 "_law_cell" = true)
    (k12 : PySem.W.keepIn K (.ref f12) = true)
    (a13 : PySem.W.nsIn K mainGlobals "_law_seed" = some (some (.ref f13)))
    (l13 : K.lookup f13 = some ⟨oc13, od13, .func (PySem.W.fnOf "_law_seed" "_law_seed" (defArgs s_law_seed) (defBody s_law_seed) (defScope s_law_seed) .none kV13 dc13 pm13 an13 cd13 ct13), sl13⟩)
    (c13 : PySem.W.codeIn K cd13 "_law_seed" = true)
    (k13 : PySem.W.keepIn K (.ref f13) = true)
    (a14 : PySem.W.nsIn K mainGlobals "_law_pick" = some (some (.ref f14)))
    (l14 : K.lookup f14 = some ⟨oc14, od14, .func (PySem.W.fnOf "_law_pick" "_law_pick" (defArgs s_law_pick) (defBody s_law_pick) (defScope s_law_pick) .none kV14 dc14 pm14 an14 cd14 ct14), sl14⟩)
    (c14 : PySem.W.codeIn K cd14 "_law_pick" = true)
    (k14 : PySem.W.keepIn K (.ref f14) = true)
    (a15 : PySem.W.nsIn K mainGlobals "_law_sum" = some (some (.ref f15)))
    (l15 : K.lookup f15 = some ⟨oc15, od15, .func (PySem.W.fnOf "_law_sum" "_law_sum" (defArgs s_law_sum) (defBody s_law_sum) (defScope s_law_sum) .none kV15 dc15 pm15 an15 cd15 ct15), sl15⟩)
    (c15 : PySem.W.codeIn K cd15 "_law_sum" = true)
    (k15 : PySem.W.keepIn K (.ref f15) = true)
    (a16 : PySem.W.nsIn K mainGlobals "_law_source" = some (some (.ref f16)))
    (l16 : K.lookup f16 = some ⟨oc16, od16, .func (PySem.W.fnOf "_law_source" "_law_source" (defArgs s_law_source) (defBody s_law_source) (defScope s_law_source) .none kV16 dc16 pm16 an16 cd16 ct16), sl16⟩)
    (c16 : PySem.W.codeIn K cd16 "_law_source" = true)
    (k16 : PySem.W.keepIn K (.ref f16) = true)
    (a17 : PySem.W.nsIn K mainGlobals "_law_names" = some (some (.ref f17)))
    (l17 : K.lookup f17 = some ⟨oc17, od17, .func (PySem.W.fnOf "_law_names" "_law_names" (defArgs s_law_names) (defBody s_law_names) (defScope s_law_names) .none kV17 dc17 pm17 an17 cd17 ct17), sl17⟩)
    (c17 : PySem.W.codeIn K cd17 "_law_names" = true)
    (k17 : PySem.W.keepIn K (.ref f17) = true)
    (a18 : PySem.W.nsIn K mainGlobals "law" = some (some (.ref f18)))
    (l18 : K.lookup f18 = some ⟨oc18, od18, .func (PySem.W.fnOf "law" "law" (defArgs s_law) (defBody s_law) (defScope s_law) .none kV18 dc18 pm18 an18 cd18 ct18), sl18⟩)
    (c18 : PySem.W.codeIn K cd18 "law" = true)
    (k18 : PySem.W.keepIn K (.ref f18) = true)
    (z19 : PySem.W.nsIn K mainGlobals "isinstance" = some none)
    (z20 : PySem.W.nsIn K mainGlobals "int" = some none)
    (z21 : PySem.W.nsIn K mainGlobals "bool" = some none)
    (z22 : PySem.W.nsIn K mainGlobals "str" = some none)
    (z23 : PySem.W.nsIn K mainGlobals "tuple" = some none)
    (z24 : PySem.W.nsIn K mainGlobals "list" = some none)
    (z25 : PySem.W.nsIn K mainGlobals "len" = some none)
    (z26 : PySem.W.nsIn K mainGlobals "range" = some none)
    (z27 : PySem.W.nsIn K mainGlobals "sorted" = some none)
    (z28 : PySem.W.nsIn K mainGlobals "set" = some none)
    (a29 : PySem.W.nsIn K mainGlobals "SMALL" = some (some v29))
    (r29 : RelV (.str "abcdefghijklmnopqrstuvwxyz") v29)
    (a30 : PySem.W.nsIn K mainGlobals "ROUND" = some (some v30))
    (r30 : RelV (.int 10000) v30)
    (a31 : PySem.W.nsIn K mainGlobals "MOST_ROWS" = some (some v31))
    (r31 : RelV (.int 8) v31)
    (a32 : PySem.W.nsIn K mainGlobals "MOST_DEEP" = some (some v32))
    (r32 : RelV (.int 6) v32)
    (a33 : PySem.W.nsIn K mainGlobals "WORDS" = some (some (.ref t33)))
    (l33 : K.lookup t33 = some o33)
    (q33 : KTup o33 [("add" : Str), "less", "times", "over", "same"])
    (a34 : PySem.W.nsIn K mainGlobals "BARRED" = some (some (.ref t34)))
    (l34 : K.lookup t34 = some o34)
    (q34 : KTup o34 [("add" : Str), "less", "times", "over", "same", "if", "set", "show"])
    (a35 : PySem.W.nsIn K mainGlobals "BadSource" = some (some (.ref C35)))
    (x35 : PySem.W.excIn K C35 [.type "ValueError", .type "Exception", .type "BaseException", .type "object"] "ValueError.__new__" = true)
    (k35 : PySem.W.keepIn K (.ref C35) = true)
    (s35 : PySem.W.subIn K (.ref C35) (.type "BaseException") = some true)
    (t35 : PySem.W.typeIn K (.ref C35) = some (.type "type"))
    (i35 : PySem.W.isClsIn K C35 = true)
    (m35 : PySem.W.subIn K (.ref C35) (.ref C35) = some true) :
    ∃ fd : FuncData, (∀ (s : Shared) (v : Value), BindsTo s fd ⟨[v], []⟩ [("_law_script", v)]) ∧ ∀ base : Heap, K.In base → base.Ns mainGlobals mg → FnOk l.prog w K mg base CX0 15 fa fd ["_law_script"] (spLaw K) := by
  have F1 := fun_mk (st := s_is_within) l1 c1 k1
  have b1 := F1.binds (ps := ["thing", "low", "high"]) fun _ _ _ _ _ _ us hl => match us, hl with | [_, _, _], _ => rfl
  have F2 := fun_mk (st := s_is_name) l2 c2 k2
  have b2 := F2.binds (ps := ["thing"]) fun _ _ _ _ _ _ us hl => match us, hl with | [_], _ => rfl
  have F3 := fun_mk (st := s_is_sum) l3 c3 k3
  have b3 := F3.binds (ps := ["thing", "deep"]) fun _ _ _ _ _ _ us hl => match us, hl with | [_, _], _ => rfl
  have F4 := fun_mk (st := s_is_row) l4 c4 k4
  have b4 := F4.binds (ps := ["thing"]) fun _ _ _ _ _ _ us hl => match us, hl with | [_], _ => rfl
  have F5 := fun_mk (st := s_is_source) l5 c5 k5
  have b5 := F5.binds (ps := ["thing"]) fun _ _ _ _ _ _ us hl => match us, hl with | [_], _ => rfl
  have F6 := fun_mk (st := s_look) l6 c6 k6
  have b6 := F6.binds (ps := ["source"]) fun _ _ _ _ _ _ us hl => match us, hl with | [_], _ => rfl
  have F7 := fun_mk (st := s_names_in) l7 c7 k7
  have b7 := F7.binds (ps := ["some"]) fun _ _ _ _ _ _ us hl => match us, hl with | [_], _ => rfl
  have F8 := fun_mk (st := s_sets_of) l8 c8 k8
  have b8 := F8.binds (ps := ["source"]) fun _ _ _ _ _ _ us hl => match us, hl with | [_], _ => rfl
  have F9 := fun_mk (st := s_reads_of) l9 c9 k9
  have b9 := F9.binds (ps := ["source"]) fun _ _ _ _ _ _ us hl => match us, hl with | [_], _ => rfl
  have F10 := fun_mk (st := s_sets) l10 c10 k10
  have b10 := F10.binds (ps := ["source"]) fun _ _ _ _ _ _ us hl => match us, hl with | [_], _ => rfl
  have F11 := fun_mk (st := s_reads) l11 c11 k11
  have b11 := F11.binds (ps := ["source"]) fun _ _ _ _ _ _ us hl => match us, hl with | [_], _ => rfl
  have F12 := fun_mk (st := s_law_cell) l12 c12 k12
  have b12 := F12.binds (ps := ["_law_script", "_law_k"]) fun _ _ _ _ _ _ us hl => match us, hl with | [_, _], _ => rfl
  have F13 := fun_mk (st := s_law_seed) l13 c13 k13
  have b13 := F13.binds (ps := ["_law_seed_here", "_law_k"]) fun _ _ _ _ _ _ us hl => match us, hl with | [_, _], _ => rfl
  have F14 := fun_mk (st := s_law_pick) l14 c14 k14
  have b14 := F14.binds (ps := ["_law_seed_here", "_law_many"]) fun _ _ _ _ _ _ us hl => match us, hl with | [_, _], _ => rfl
  have F15 := fun_mk (st := s_law_sum) l15 c15 k15
  have b15 := F15.binds (ps := ["_law_seed_here", "_law_deep"]) fun _ _ _ _ _ _ us hl => match us, hl with | [_, _], _ => rfl
  have F16 := fun_mk (st := s_law_source) l16 c16 k16
  have b16 := F16.binds (ps := ["_law_seed_here"]) fun _ _ _ _ _ _ us hl => match us, hl with | [_], _ => rfl
  have F17 := fun_mk (st := s_law_names) l17 c17 k17
  have b17 := F17.binds (ps := ["_law_some"]) fun _ _ _ _ _ _ us hl => match us, hl with | [_], _ => rfl
  have e := hfa.symm.trans (PySem.W.mg_of X G a18)
  cases e
  have F18 := fun_mk (st := s_law) l18 c18 k18
  have b18 := F18.binds (ps := ["_law_script"]) fun _ _ _ _ _ _ us hl => match us, hl with | [_], _ => rfl
  let T : Txt K mg := {
    is_within := ⟨_, _, PySem.W.mg_of X G a1, F1, b1⟩,
    is_name := ⟨_, _, PySem.W.mg_of X G a2, F2, b2⟩,
    is_sum := ⟨_, _, PySem.W.mg_of X G a3, F3, b3⟩,
    is_row := ⟨_, _, PySem.W.mg_of X G a4, F4, b4⟩,
    is_source := ⟨_, _, PySem.W.mg_of X G a5, F5, b5⟩,
    look := ⟨_, _, PySem.W.mg_of X G a6, F6, b6⟩,
    names_in := ⟨_, _, PySem.W.mg_of X G a7, F7, b7⟩,
    sets_of := ⟨_, _, PySem.W.mg_of X G a8, F8, b8⟩,
    reads_of := ⟨_, _, PySem.W.mg_of X G a9, F9, b9⟩,
    sets := ⟨_, _, PySem.W.mg_of X G a10, F10, b10⟩,
    reads := ⟨_, _, PySem.W.mg_of X G a11, F11, b11⟩,
    law_cell := ⟨_, _, PySem.W.mg_of X G a12, F12, b12⟩,
    law_seed := ⟨_, _, PySem.W.mg_of X G a13, F13, b13⟩,
    law_pick := ⟨_, _, PySem.W.mg_of X G a14, F14, b14⟩,
    law_sum := ⟨_, _, PySem.W.mg_of X G a15, F15, b15⟩,
    law_source := ⟨_, _, PySem.W.mg_of X G a16, F16, b16⟩,
    law_names := ⟨_, _, PySem.W.mg_of X G a17, F17, b17⟩,
    law := ⟨_, _, PySem.W.mg_of X G a18, F18, b18⟩,
    b_isinstance := PySem.W.mg_none_of X G z19,
    b_int := PySem.W.mg_none_of X G z20,
    b_bool := PySem.W.mg_none_of X G z21,
    b_str := PySem.W.mg_none_of X G z22,
    b_tuple := PySem.W.mg_none_of X G z23,
    b_list := PySem.W.mg_none_of X G z24,
    b_len := PySem.W.mg_none_of X G z25,
    b_range := PySem.W.mg_none_of X G z26,
    b_sorted := PySem.W.mg_none_of X G z27,
    b_set := PySem.W.mg_none_of X G z28,
    v_SMALL := v29, c_SMALL := PySem.W.mg_of X G a29, r_SMALL := r29,
    v_ROUND := v30, c_ROUND := PySem.W.mg_of X G a30, r_ROUND := r30,
    v_MOST_ROWS := v31, c_MOST_ROWS := PySem.W.mg_of X G a31, r_MOST_ROWS := r31,
    v_MOST_DEEP := v32, c_MOST_DEEP := PySem.W.mg_of X G a32, r_MOST_DEEP := r32,
    a_WORDS := t33, c_WORDS := PySem.W.mg_of X G a33, r_WORDS := rfl, q_WORDS := fun H => ktup_sq l33 q33,
    a_BARRED := t34, c_BARRED := PySem.W.mg_of X G a34, r_BARRED := rfl, q_BARRED := fun H => ktup_sq l34 q34,
    BadSource := ⟨C35, PySem.W.mg_of X G a35, x35, k35, s35, t35, exm_own s35 i35 t35 m35⟩ }
  exact ⟨_, fun s v => .of_eq rfl, fun base _ _ => ok_law T⟩
theorem walk {l : PySem.W.OpenLaw} {q : Program} {loose : List Str} {XP : (Str → Option Value) → Heap → Prop} {YP : World → Heap → Prop} {d : DefRec} {K : Params → PySem.W.Frag} (hn : l.most = some 63) (hdf : d.params.defaults = [])
    (hY : ∀ (w : World) (h : Heap), YP w h → (K w.params).In h)
    (F : ∀ (w : World) (mg : Str → Option Value) (fa : Addr) (h : Heap), (K w.params).In h → h.Ns mainGlobals mg → mg d.name = some (.ref fa) →
      ∃ fd : FuncData, (∀ (s : Shared) (u : Value), BindsTo s fd ⟨[u], []⟩ [("_law_script", u)]) ∧ ∀ base : Heap, (K w.params).In base → base.Ns mainGlobals mg → FnOk l.prog w (K w.params) mg base CX0 15 fa fd ["_law_script"] (spLaw (K w.params))) :
    PySem.W.WalkO q loose XP YP l.row.toRowW d [] (fun f vs => PySem.call f vs) :=
  L2.walk_of (n := 63) (k := 15) (x := "_law_script") (CX := fun _ => CX0) (sp := fun w => spLaw (K w.params)) hn (by decide) hdf ⟨rfl, by decide, by decide⟩ hY F (fun _ _ a ns hl _ hS => ⟨a, ns, rfl, hS, hl, fun H' => rfl⟩) fun _ _ _ _ _ z => z
end Y
open PySem PySem.W PyProof.Rows
set_option maxRecDepth 100000 in
set_option maxHeartbeats 0 in
theorem PySem.Challenge.cw_leancells_k03_names_holds : PySem.Challenge.rw_leancells_k03_names.Holds := by
  w_on; o_law; k_head; (case hw => w_witness2)
  k_fill
  refine Y.walk (l := PySem.Challenge.rw_leancells_k03_names) rfl rfl (fun w h Y => PySem.W.kIn_of Y) ?F
  case F =>
    intro w mg fa h KX G hmg
    refine' Y.all_mk KX G hmg ?a1 ?l1 ?c1 ?k1 ?a2 ?l2 ?c2 ?k2 ?a3 ?l3 ?c3 ?k3 ?a4 ?l4 ?c4 ?k4 ?a5 ?l5 ?c5 ?k5 ?a6 ?l6 ?c6 ?k6 ?a7 ?l7 ?c7 ?k7 ?a8 ?l8 ?c8 ?k8 ?a9 ?l9 ?c9 ?k9 ?a10 ?l10 ?c10 ?k10 ?a11 ?l11 ?c11 ?k11 ?a12 ?l12 ?c12 ?k12 ?a13 ?l13 ?c13 ?k13 ?a14 ?l14 ?c14 ?k14 ?a15 ?l15 ?c15 ?k15 ?a16 ?l16 ?c16 ?k16 ?a17 ?l17 ?c17 ?k17 ?a18 ?l18 ?c18 ?k18 ?z19 ?z20 ?z21 ?z22 ?z23 ?z24 ?z25 ?z26 ?z27 ?z28 ?a29 ?r29 ?a30 ?r30 ?a31 ?r31 ?a32 ?r32 ?a33 ?l33 ?q33 ?a34 ?l34 ?q34 ?a35 ?x35 ?k35 ?s35 ?t35 ?i35 ?m35
    (case a1 => k_is)
    (case l1 => k_is)
    (case c1 => k_is)
    (case k1 => k_is)
    (case a2 => k_is)
    (case l2 => k_is)
    (case c2 => k_is)
    (case k2 => k_is)
    (case a3 => k_is)
    (case l3 => k_is)
    (case c3 => k_is)
    (case k3 => k_is)
    (case a4 => k_is)
    (case l4 => k_is)
    (case c4 => k_is)
    (case k4 => k_is)
    (case a5 => k_is)
    (case l5 => k_is)
    (case c5 => k_is)
    (case k5 => k_is)
    (case a6 => k_is)
    (case l6 => k_is)
    (case c6 => k_is)
    (case k6 => k_is)
    (case a7 => k_is)
    (case l7 => k_is)
    (case c7 => k_is)
    (case k7 => k_is)
    (case a8 => k_is)
    (case l8 => k_is)
    (case c8 => k_is)
    (case k8 => k_is)
    (case a9 => k_is)
    (case l9 => k_is)
    (case c9 => k_is)
    (case k9 => k_is)
    (case a10 => k_is)
    (case l10 => k_is)
    (case c10 => k_is)
    (case k10 => k_is)
    (case a11 => k_is)
    (case l11 => k_is)
    (case c11 => k_is)
    (case k11 => k_is)
    (case a12 => k_is)
    (case l12 => k_is)
    (case c12 => k_is)
    (case k12 => k_is)
    (case a13 => k_is)
    (case l13 => k_is)
    (case c13 => k_is)
    (case k13 => k_is)
    (case a14 => k_is)
    (case l14 => k_is)
    (case c14 => k_is)
    (case k14 => k_is)
    (case a15 => k_is)
    (case l15 => k_is)
    (case c15 => k_is)
    (case k15 => k_is)
    (case a16 => k_is)
    (case l16 => k_is)
    (case c16 => k_is)
    (case k16 => k_is)
    (case a17 => k_is)
    (case l17 => k_is)
    (case c17 => k_is)
    (case k17 => k_is)
    (case a18 => k_is)
    (case l18 => k_is)
    (case c18 => k_is)
    (case k18 => k_is)
    (case z19 => k_is)
    (case z20 => k_is)
    (case z21 => k_is)
    (case z22 => k_is)
    (case z23 => k_is)
    (case z24 => k_is)
    (case z25 => k_is)
    (case z26 => k_is)
    (case z27 => k_is)
    (case z28 => k_is)
    (case a29 => k_is)
    (case r29 => exact ⟨_, rfl⟩)
    (case a30 => k_is)
    (case r30 => exact ⟨_, rfl⟩)
    (case a31 => k_is)
    (case r31 => exact ⟨_, rfl⟩)
    (case a32 => k_is)
    (case r32 => exact ⟨_, rfl⟩)
    (case a33 => k_is)
    (case l33 => k_is)
    (case q33 => exact ⟨_, _, rfl, rfl, by decide, .cons ⟨_, rfl⟩ (.cons ⟨_, rfl⟩ (.cons ⟨_, rfl⟩ (.cons ⟨_, rfl⟩ (.cons ⟨_, rfl⟩ .nil))))⟩)
    (case a34 => k_is)
    (case l34 => k_is)
    (case q34 => exact ⟨_, _, rfl, rfl, by decide, .cons ⟨_, rfl⟩ (.cons ⟨_, rfl⟩ (.cons ⟨_, rfl⟩ (.cons ⟨_, rfl⟩ (.cons ⟨_, rfl⟩ (.cons ⟨_, rfl⟩ (.cons ⟨_, rfl⟩ (.cons ⟨_, rfl⟩ .nil)))))))⟩)
    (case a35 => k_is)
    (case x35 => k_exc)
    (case k35 => k_is)
    (case s35 => k_is)
    (case t35 => k_is)
    (case i35 => k_is)
    (case m35 => first | rfl | k_is)
