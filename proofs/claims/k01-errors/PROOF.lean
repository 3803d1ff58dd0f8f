import PyProof.Rows.All
import Wide.All
import OpenK.AllK
import Wide.FinOn
import HandS.ForMost
import HandS.ForExc
import HandS.ExcInit
import HandS.ExcValue
import HandS.ExcField
import HandS.ClsMeth
import HandS.IsInst
import HandS.FStr
import KE.KExcIs
import PySem.Challenge.RW_stepsagain_k01_errors
set_option Elab.async false
set_option linter.all false
set_option maxRecDepth 100000
set_option maxHeartbeats 4000000
namespace Stp
open PySem L2
def top (i : Nat) : Stmt := PySem.Challenge.pw_stepsagain_k01_errors.main.body.getD i (.Pass ⟨0, 0, 0, 0⟩)
abbrev sPen : Stmt := top 28
abbrev sNext : Stmt := top 29
abbrev sDraw : Stmt := top 30

/-! ### the pen -/
/-- all that was tracked, but for p, is as it was -/
def But (p : Addr) (H H' : Hp) : Prop := ∀ b o, b ≠ p → H b = some o → H' b = some o
theorem But.refl (p : Addr) (H : Hp) : But p H H := fun _ _ _ h => h
theorem But.trans {p : Addr} {H H1 H2 : Hp} (a : But p H H1) (b : But p H1 H2) : But p H H2 := fun c o n h => b c o n (a c o n h)
theorem Same.but {p : Addr} {H H' : Hp} (a : Same H H') : But p H H' := fun c o _ h => a c o h
theorem But.upd {p : Addr} {H H' : Hp} {o : HO} (a : But p H H') : But p H (upd H' p o) := fun c u n h => by
  rw [upd_ne n]
  exact a c u n h
/-- a pen: its cells at c, the number of the next call, the number that remains -/
structure PenIs (H : Hp) (p c : Addr) (cs : List Int) (i : Nat) (r : Int) : Prop where
  pen : H p = some (.lst [.ref c, .int i, .int r])
  cells : H c = some (.lst (cs.map V.int))
  pos : 0 ≤ r
theorem PenIs.ne {H : Hp} {p c : Addr} {cs : List Int} {i : Nat} {r : Int} (P : PenIs H p c cs i r) : c ≠ p := by
  refine ne_of P.cells P.pen fun z => ?_
  injection z with z
  cases cs with
  | nil => cases z
  | cons a l =>
    rw [List.map_cons] at z
    injection z with z1 _
    cases z1
def PenAt (H : Hp) (p : Addr) (n : Nat) : Prop := ∃ c cs i r, PenIs H p c cs i r ∧ i ≤ n
theorem PenAt.same {H H' : Hp} {p : Addr} {n : Nat} (P : PenAt H p n) (s : Same H H') : PenAt H' p n := by
  obtain ⟨c, cs, i, r, ⟨h1, h2, h3⟩, h4⟩ := P
  exact ⟨c, cs, i, r, ⟨s _ _ h1, s _ _ h2, h3⟩, h4⟩
theorem PenAt.up {H : Hp} {p : Addr} {n m : Nat} (P : PenAt H p n) (s : n ≤ m) : PenAt H p m := by
  obtain ⟨c, cs, i, r, h1, h4⟩ := P
  exact ⟨c, cs, i, r, h1, Nat.le_trans h4 s⟩

def spPen (K : PySem.W.Frag) : Sp := fun vs H Q _ => ∃ (a : Addr) (ns : List Int), vs = [.ref a] ∧ SqL K H a (ns.map V.int) ∧
  ∀ (H' : Hp) (p : Addr), Same H H' → H p = none → PenAt H' p 0 → Q (.ref p) H'
def spNext : Sp := fun vs H Q _ => ∃ (p c : Addr) (cs : List Int) (i : Nat) (r : Int), vs = [.ref p] ∧ PenIs H p c cs i r ∧ i < 1000000000000 ∧
  ∀ (H' : Hp) (v : Int), But p H H' → PenIs H' p c cs (i + 1) r → 0 ≤ v → Q (.int v) H'
def spDraw : Sp := fun vs H Q _ => ∃ (p : Addr) (u : Int) (n : Nat), vs = [.ref p, .int u] ∧ PenAt H p n ∧ n < 1000000000000 ∧ 0 < u ∧ u < 1073741824 ∧
  ∀ (H' : Hp) (d : Int), But p H H' → PenAt H' p (n + 1) → 0 ≤ d → d < u → Q (.int d) H'
structure PenTxt (mg : Str → Option Value) : Prop where
  list : mg "list" = none
  int : mg "int" = none
  len : mg "len" = none
section
variable {P : Program} {w : World} {K : PySem.W.Frag} {mg : Str → Option Value} {base : Heap}
theorem scP : FnScope ["_law_script"] ["_law_script"] (defScope sPen) := ⟨rfl, rfl, rfl, by decide +kernel, rfl, by decide +kernel, by decide +kernel⟩
theorem ok_pen {f : Addr} {fd : FuncData} (F : Fun K "_law_pen" "_law_pen" sPen f fd) (T : PenTxt mg) : FnOk P w K mg base CX0 1 f fd ["_law_script"] (spPen K) := by
  refine F.ok scP (fun vs H Q E h => ?_) (fun cdv A outer s H vs Q E hr h => ?_)
  · obtain ⟨a, ns, rfl, _⟩ := h
    rfl
  · obtain ⟨a, ns, rfl, hS, k⟩ := h
    refine ⟨_, pss_one (ps_ret (pe_lst (pa_cons (pe_callTy call_list_of (by rfl) T.list (by decide +kernel) (pa_cons (pe_slice sl_list (pv 0) po_none (po_some pe_int)) pa_nil)) (pa_cons pe_int (pa_cons pe_int pa_nil))))), ?_⟩
    refine ⟨_, rfl, _, rfl, _, _, rfl, hS, fun p1 n1 => ?_⟩
    refine ⟨_, _, rfl, .inl (SqL.of upd_same), fun p2 n2 => ?_⟩
    refine ⟨(by show 3 ≤ sizeLine; decide), fun p3 n3 => ?_⟩
    have d21 : p2 ≠ p1 := fun e => by rw [e, upd_same] at n2; cases n2
    have d32 : p3 ≠ p2 := fun e => by rw [e, upd_same] at n3; cases n3
    have h2 : H p2 = none := by rw [upd_ne d21] at n2; exact n2
    have h3' : upd H p1 (.lst (cutV (ns.map V.int) none (some 60))) p3 = none := by rw [upd_ne d32] at n3; exact n3
    have d31 : p3 ≠ p1 := fun e => by rw [e, upd_same] at h3'; cases h3'
    have h3 : H p3 = none := by rw [upd_ne d31] at h3'; exact h3'
    refine k _ p3 (fun b o e => ?_) h3 ⟨p2, ns.take 60, 0, 0, ⟨upd_same, ?_, by decide⟩, by decide⟩
    · rw [upd_ne (ne_of_none e h3), upd_ne (ne_of_none e h2), upd_ne (ne_of_none e n1)]
      exact e
    · rw [upd_ne d32.symm, upd_same]
      congr 2
      simp only [cutV, HT.sIx_none]
      rw [show (some (60 : Int)) = some ((60 : Nat) : Int) from rfl, HT.sIx_nat]
      simp [List.map_take]
end
end Stp
set_option Elab.async false
set_option linter.all false
set_option maxRecDepth 100000
set_option maxHeartbeats 4000000
namespace Stp
open PySem L2
theorem dp_ints {K : PySem.W.Frag} {H : Hp} : ∀ (cs : List Int), DpAll K H (cs.map V.int) (cs.map PyData.int)
  | [] => .nil
  | a :: l => .cons (.int a) (dp_ints l)
/-- flat data: d of depth at most n that may be laid -/
def Shp (n : Nat) (d : PyData) : Prop := d.canLay0 = true ∧ d.depth ≤ n
theorem Shp.up {n m : Nat} {d : PyData} (h : Shp n d) (l : n ≤ m) : Shp m d := ⟨h.1, Nat.le_trans h.2 l⟩
theorem shp_all {n : Nat} : ∀ {ds : List PyData}, (∀ d ∈ ds, Shp n d) → PyData.canLayAll0 ds = true ∧ PyData.depthAll ds ≤ n
  | [], _ => ⟨by simp only [PyData.canLayAll0], by simp only [PyData.depthAll]; exact Nat.zero_le _⟩
  | d :: ds, h => by
    have h1 := h d (List.mem_cons_self ..)
    have h2 := shp_all (ds := ds) fun e m => h e (List.mem_cons_of_mem _ m)
    refine ⟨?_, ?_⟩
    · simp only [PyData.canLayAll0, h1.1, h2.1, Bool.and_self]
    · simp only [PyData.depthAll]
      exact Nat.max_le.mpr ⟨h1.2, h2.2⟩
theorem Shp.list {n : Nat} {ds : List PyData} (h : ∀ d ∈ ds, Shp n d) : Shp (n + 1) (.list ds) := by
  have q := shp_all h
  refine ⟨?_, ?_⟩
  · simp only [PyData.canLay0, q.1]
  · simp only [PyData.depth]
    exact Nat.succ_le_succ q.2
theorem Shp.tuple {n : Nat} {ds : List PyData} (h : ∀ d ∈ ds, Shp n d) : Shp (n + 1) (.tuple ds) := by
  have q := shp_all h
  refine ⟨?_, ?_⟩
  · simp only [PyData.canLay0, q.1]
  · simp only [PyData.depth]
    exact Nat.succ_le_succ q.2
theorem Shp.int (i : Int) : Shp 0 (.int i) := ⟨by simp only [PyData.canLay0], by simp only [PyData.depth]; exact Nat.le_refl _⟩
theorem Shp.bool (i : Bool) : Shp 0 (.bool i) := ⟨by simp only [PyData.canLay0], by simp only [PyData.depth]; exact Nat.le_refl _⟩
theorem Shp.none : Shp 0 .none := ⟨by simp only [PyData.canLay0], by simp only [PyData.depth]; exact Nat.le_refl _⟩
theorem Shp.ok {n : Nat} {d : PyData} (h : Shp n d) (l : n ≤ 64) : SeqAt.shaped d = true := by
  unfold SeqAt.shaped
  rw [h.1, decide_eq_true (Nat.le_trans h.2 l)] <;> rfl
theorem shp_ints (cs : List Int) : Shp 1 (.list (cs.map PyData.int)) := Shp.list fun d m => by
  obtain ⟨i, _, rfl⟩ := List.mem_map.mp m
  exact Shp.int i
theorem eqv_ints_nil (cs : List Int) : PyData.eqv (.list (cs.map PyData.int)) (.list []) = cs.isEmpty := by
  cases cs <;> rfl
section
variable {P : Program} {w : World} {K : PySem.W.Frag} {mg : Str → Option Value} {base : Heap}
theorem scN : FnScope ["_law_pen_here", "_law_index", "_law_cell_here", "_law_some", "_law_more", "_law_top"] ["_law_pen_here"] (defScope sNext) := ⟨rfl, rfl, rfl, by decide +kernel, rfl, by decide +kernel, by decide +kernel⟩
theorem ok_next {f : Addr} {fd : FuncData} (F : Fun K "_law_next" "_law_next" sNext f fd) (T : PenTxt mg) : FnOk P w K mg base CX0 1 f fd ["_law_pen_here"] spNext := by
  refine F.ok scN (fun vs H Q E h => ?_) (fun cdv A outer s H vs Q E hr h => ?_)
  · obtain ⟨p, c, cs, i, r, rfl, _⟩ := h
    rfl
  · obtain ⟨p, c, cs, i, r, rfl, PI, hi, k⟩ := h
    refine ⟨_, 
      pss_cons (ps_set (i := 1) scN.nd rfl (Or.inl rfl) (pe_ix ix_list (pv 0) pe_int (fun _ _ => rfl)))
      (pss_cons (ps_asg (pe_op op_add (pv 1) pe_int) (pg_sub (pv 0) pe_int set_list))
      (pss_cons (ps_set (i := 2) scN.nd rfl (Or.inl rfl) (pe_op op_add (pe_op op_mul (pv 1) pe_int) pe_int))
      (pss_cons (ps_if (pt_cmpR (op_neD hr.units) (pe_ix ix_list (pv 0) pe_int (fun _ _ => rfl)) (pe_lst pa_nil) (nomark _))
        (pss_one (ps_set (i := 2) scN.nd rfl (Or.inl rfl) (pe_ix ix_list (pe_ix ix_list (pv 0) pe_int (fun _ _ => rfl)) (pe_op op_mod (pe_callTy call_int1 (by rfl) T.int (by decide +kernel) (pa_cons (pv 1) pa_nil)) (pe_callB call_len_seq (by rfl) T.len PySem.boot_len (pa_cons (pe_ix ix_list (pv 0) pe_int (fun _ _ => rfl)) pa_nil))) (fun _ _ => rfl)))) pss_nil)
      (pss_cons (ps_if (PW.pt (pw_and (pt_cmpR op_lt (pv 1) (pe_callB call_len_seq (by rfl) T.len PySem.boot_len (pa_cons (pe_ix ix_list (pv 0) pe_int (fun _ _ => rfl)) pa_nil)) (nomark _)) (pw_and1 (pt_cmpR op_ge (pv 2) (pe_op op_pow pe_int pe_int) (nomark _))))) (pss_one (ps_ret (pv 2))) pss_nil)
      (pss_cons (ps_set (i := 3) scN.nd rfl (Or.inl rfl) (pe_op op_mod (pe_callTy call_int1 (by rfl) T.int (by decide +kernel) (pa_cons (pe_op op_add (pe_op op_add (pe_op op_mod (pe_callTy call_int1 (by rfl) T.int (by decide +kernel) (pa_cons (pv 2) pa_nil)) pe_int) (pe_op op_mul (pv 1) pe_int)) pe_int) pa_nil)) pe_int))
      (pss_cons (ps_set (i := 4) scN.nd rfl (Or.inl rfl) (pe_op op_mod (pe_callTy call_int1 (by rfl) T.int (by decide +kernel) (pa_cons (pe_op op_add (pe_op op_add (pe_op op_mul (pv 3) (pv 3)) (pe_op op_mul (pv 1) pe_int)) pe_int) pa_nil)) pe_int))
      (pss_cons (ps_set (i := 5) scN.nd rfl (Or.inl rfl) (pe_op op_mod (pe_callTy call_int1 (by rfl) T.int (by decide +kernel) (pa_cons (pe_op op_add (pe_op op_add (pe_op op_mul (pv 4) (pv 4)) (pv 3)) (pe_op op_mul (pe_op op_mul (pv 1) (pv 1)) pe_int)) pa_nil)) pe_int))
      (pss_one (ps_ret (pe_op op_add (pe_op op_mul (pe_op op_add (pe_op op_mul (pv 5) pe_int) (pv 4)) pe_int) (pv 3))))))))))), ?_⟩
    have ncp := PI.ne
    refine ⟨_, rfl, _, _, _, _, rfl, rfl, SqL.of PI.pen, rfl, ?_⟩
    -- _law_pen_here[1] = _law_index + 1
    refine ⟨_, rfl, _, _, rfl, rfl, _, rfl, _, _, _, 1, rfl, rfl, PI.pen, rfl, ?_⟩
    generalize eH : upd H p _ = H1
    have hp1 : H1 p = some (.lst [.ref c, .int ((i + 1 : Nat) : Int), .int r]) := by
      rw [← eH, upd_same]; rfl
    have hc1 : H1 c = some (.lst (cs.map V.int)) := by rw [← eH, upd_ne ncp]; exact PI.cells
    have b1 : But p H H1 := fun b o n e => by rw [← eH, upd_ne n]; exact e
    -- cell = index * 1061 + 59
    refine ⟨_, rfl, _, _, rfl, rfl, .inr ⟨by decide, by decide⟩, _, _, rfl, rfl, ?_⟩
    -- the rest, for any cell
    have fin : ∀ (cell : Int) (H2 : Hp), But p H H2 → H2 p = some (.lst [.ref c, .int ((i + 1 : Nat) : Int), .int r]) → H2 c = some (.lst (cs.map V.int)) → True := fun _ _ _ _ _ => trivial
    -- if pen[0] != []
    refine ⟨_, rfl, _, _, _, _, rfl, rfl, SqL.of hp1, rfl, Nat.zero_le _, fun l hl => ?_⟩
    generalize eH2 : upd H1 l _ = H2
    have s12 : Same H1 H2 := fun b o e => by rw [← eH2, upd_ne (ne_of_none e hl)]; exact e
    have hl2 : H2 l = some (.lst []) := by rw [← eH2]; exact upd_same
    have hp2 := s12 _ _ hp1
    have hc2 := s12 _ _ hc1
    have b2 : But p H H2 := b1.trans (Same.but s12)
    refine ⟨_, _, .lst (SqL.of hc2) (dp_ints cs), .lst (SqL.of hl2) .nil, (shp_ints cs).ok (by decide), (Shp.list (n := 0) (fun d m => by cases m)).ok (by decide), _, rfl, ?_⟩
    rw [eqv_ints_nil]
    have hlen : ((cs.map V.int).length : Int) = (cs.length : Int) := by rw [List.length_map]
    have hm : ∀ m : Int, 0 < m → ∀ x : Int, 0 ≤ x % m ∧ x % m < m := fun m h x => ⟨Int.emod_nonneg _ (Int.ne_of_gt h), Int.emod_lt_of_pos _ h⟩
    refine ite2 (fun hne => ?a) (fun he => ?b)
    case' a =>
      have hcs : 0 < cs.length := by
        cases cs with
        | nil => simp at hne
        | cons a l => simp
      -- cell = pen[0][int(index) % len(pen[0])]
      refine ⟨_, rfl, _, _, _, _, rfl, rfl, SqL.of hp2, rfl, _, rfl, .inl ⟨_, rfl, ?_⟩⟩
      refine ⟨_, rfl, _, _, _, _, rfl, rfl, SqL.of hp2, rfl, c, _, rfl, .inl (SqL.of hc2), ?_⟩
      refine ⟨_, _, rfl, rfl, (by rw [hlen]; omega), ?_⟩
      rw [hlen]
      have hb := hm (cs.length : Int) (by omega) (i : Int)
      obtain ⟨j, hj⟩ := Int.eq_ofNat_of_zero_le hb.1
      have hjl : j < cs.length := by omega
      refine ⟨c, _, _, .int cs[j], rfl, rfl, SqL.of hc2, by rw [hj]; exact atI_nat (by rw [List.getElem?_map, List.getElem?_eq_getElem hjl]; rfl), ?_⟩
      generalize cs[j] = cell
    all_goals
      refine ⟨_, rfl, _, rfl, _, _, _, _, rfl, rfl, SqL.of hp2, rfl, c, _, rfl, .inl (SqL.of hc2), _, _, rfl, rfl, _, rfl, ?_⟩
      have fin : ∀ v : Int, 0 ≤ v → Q (.int v) H2 := fun v hv => k H2 v b2 ⟨hp2, hc2, PI.pos⟩ hv
      refine ite2 (fun h1 => ?_) (fun h1 => ?_)
      · refine ⟨_, rfl, _, _, rfl, rfl, ⟨by decide, by decide, by decide⟩, _, _, rfl, rfl, _, rfl, ?_⟩
        refine ite2 (fun h2 => ?_) (fun h2 => ?_)
        · refine ⟨_, rfl, fin _ ?_⟩
          have h3 := of_decide_eq_true h2
          rw [show (10 : Int) ^ (18 : Int).toNat = 1000000000000000000 by decide] at h3
          omega
        · refine ⟨_, rfl, .inl ⟨_, rfl, _, _, rfl, rfl, (by show (0 : Int) < 2147483587; decide), _, rfl, _, _, rfl, rfl, .inr ⟨by decide, by decide⟩, _, _, rfl, rfl, _, _, rfl, rfl, .inl ⟨_, rfl, _, _, rfl, rfl, (by show (0 : Int) < 2147483587; decide), ?_⟩⟩⟩
          refine ⟨_, rfl, _, rfl, _, _, rfl, rfl, .inl ⟨by omega, by omega⟩, _, rfl, _, _, rfl, rfl, .inr ⟨by decide, by decide⟩, _, _, rfl, rfl, _, _, rfl, rfl, .inl ⟨_, rfl, _, _, rfl, rfl, (by show (0 : Int) < 2147483563; decide), ?_⟩⟩
          refine ⟨_, rfl, _, rfl, _, _, rfl, rfl, .inl ⟨by omega, by omega⟩, _, rfl, _, _, rfl, rfl, _, rfl, _, rfl, _, _, rfl, rfl, .inl ⟨by omega, by omega⟩, _, _, rfl, rfl, .inr ⟨by decide, by decide⟩, _, _, rfl, rfl, .inl ⟨_, rfl, _, _, rfl, rfl, (by show (0 : Int) < 2147483549; decide), ?_⟩⟩
          refine ⟨_, rfl, _, _, rfl, rfl, .inr ⟨by decide, by decide⟩, _, rfl, _, _, rfl, rfl, _, _, rfl, rfl, .inr ⟨by decide, by decide⟩, _, rfl, _, _, rfl, rfl, fin _ ?_⟩
          show (0 : Int) ≤ _
          omega
      · refine ⟨_, rfl, .inl ⟨_, rfl, _, _, rfl, rfl, (by show (0 : Int) < 2147483587; decide), _, rfl, _, _, rfl, rfl, .inr ⟨by decide, by decide⟩, _, _, rfl, rfl, _, _, rfl, rfl, .inl ⟨_, rfl, _, _, rfl, rfl, (by show (0 : Int) < 2147483587; decide), ?_⟩⟩⟩
        refine ⟨_, rfl, _, rfl, _, _, rfl, rfl, .inl ⟨by omega, by omega⟩, _, rfl, _, _, rfl, rfl, .inr ⟨by decide, by decide⟩, _, _, rfl, rfl, _, _, rfl, rfl, .inl ⟨_, rfl, _, _, rfl, rfl, (by show (0 : Int) < 2147483563; decide), ?_⟩⟩
        refine ⟨_, rfl, _, rfl, _, _, rfl, rfl, .inl ⟨by omega, by omega⟩, _, rfl, _, _, rfl, rfl, _, rfl, _, rfl, _, _, rfl, rfl, .inl ⟨by omega, by omega⟩, _, _, rfl, rfl, .inr ⟨by decide, by decide⟩, _, _, rfl, rfl, .inl ⟨_, rfl, _, _, rfl, rfl, (by show (0 : Int) < 2147483549; decide), ?_⟩⟩
        refine ⟨_, rfl, _, _, rfl, rfl, .inr ⟨by decide, by decide⟩, _, rfl, _, _, rfl, rfl, _, _, rfl, rfl, .inr ⟨by decide, by decide⟩, _, rfl, _, _, rfl, rfl, fin _ ?_⟩
        show (0 : Int) ≤ _
        omega
end
section
variable {P : Program} {w : World} {K : PySem.W.Frag} {mg : Str → Option Value} {base : Heap}
theorem scD : FnScope ["_law_pen_here", "_law_under", "_law_digit"] ["_law_pen_here", "_law_under"] (defScope sDraw) := ⟨rfl, rfl, rfl, by decide +kernel, rfl, by decide +kernel, by decide +kernel⟩
theorem ok_draw {f fN : Addr} {fd fdN : FuncData} (F : Fun K "_law_draw" "_law_draw" sDraw f fd) (T : PenTxt mg) (FN : Fun K "_law_next" "_law_next" sNext fN fdN) (mN : mg "_law_next" = some (.ref fN)) (bN : Binds K fdN ["_law_pen_here"] []) : FnOk P w K mg base CX0 2 f fd ["_law_pen_here", "_law_under"] spDraw := by
  have GN : FnOk P w K mg base CX0 1 fN fdN ["_law_pen_here"] spNext := ok_next FN T
  refine F.ok scD (fun vs H Q E h => ?_) (fun cdv A outer s H vs Q E hr h => ?_)
  · obtain ⟨p, u, n, rfl, _⟩ := h
    rfl
  · obtain ⟨p, u, n, rfl, ⟨c, cs, i, r, PI, hin⟩, hn, hu0, hu1, k⟩ := h
    refine ⟨_,
      pss_cons (ps_if (pt_cmpR op_lt (pe_ix ix_list (pv 0) pe_int (fun _ _ => rfl)) (pv 1) (nomark _))
        (pss_one (ps_asg (pe_call GN hr rfl mN FN.kp bN .nil pass0 (pa_cons (pv 0) pa_nil)) (pg_sub (pv 0) pe_int set_list))) pss_nil)
      (pss_cons (ps_set (i := 2) scD.nd rfl (Or.inl rfl) (pe_op op_mod (pe_callTy call_int1 (by rfl) T.int (by decide +kernel) (pa_cons (pe_ix ix_list (pv 0) pe_int (fun _ _ => rfl)) pa_nil)) (pv 1)))
      (pss_cons (ps_asg (pe_op op_fdiv (pe_ix ix_list (pv 0) pe_int (fun _ _ => rfl)) (pv 1)) (pg_sub (pv 0) pe_int set_list))
      (pss_one (ps_ret (pv 2))))), ?_⟩
    refine ⟨_, rfl, _, _, _, _, rfl, rfl, SqL.of PI.pen, rfl, _, rfl, _, _, rfl, rfl, _, rfl, ?_⟩
    refine ite2 (fun h1 => ?a) (fun h1 => ?b)
    case' a =>
      refine ⟨_, rfl, p, c, cs, i, r, rfl, PI, by omega, fun H1 v b1 PI1 hv => ?_⟩
      refine ⟨_, rfl, _, _, _, 2, rfl, rfl, PI1.pen, rfl, ?_⟩
      generalize eH : upd H1 p _ = H2
      have PI2 : PenIs H2 p c cs (i + 1) v := ⟨by rw [← eH, upd_same]; rfl, by rw [← eH, upd_ne PI1.ne]; exact PI1.cells, hv⟩
      have b2 : But p H H2 := by rw [← eH]; exact b1.upd
    case' b =>
      have PI2 : PenIs H p c cs i r := PI
      have b2 : But p H H := But.refl p H
    all_goals
      refine ⟨_, rfl, _, _, _, _, rfl, rfl, SqL.of PI2.pen, rfl, .inl ⟨_, rfl, _, rfl, _, _, rfl, rfl, hu0, ?_⟩⟩
      refine ⟨_, rfl, _, _, _, _, rfl, rfl, SqL.of PI2.pen, rfl, _, rfl, _, _, rfl, rfl, ⟨hu0, hu1⟩, _, rfl, _, _, _, 2, rfl, rfl, PI2.pen, rfl, ?_⟩
      refine ⟨_, rfl, ?_⟩
      refine k _ _ b2.upd ⟨c, cs, _, _, ⟨upd_same, by rw [upd_ne PI2.ne]; exact PI2.cells, Int.ediv_nonneg PI2.pos (by omega)⟩, by omega⟩ (Int.emod_nonneg _ (by omega)) (Int.emod_lt_of_pos _ hu0)
end
end Stp
set_option Elab.async false
set_option linter.all false
set_option maxRecDepth 100000
set_option maxHeartbeats 4000000
namespace Stp
open PySem PySem.Spec PyProof.Rows L2
/-! ### own exceptions as values -/
section
variable {X : Cx} {e : Expr} {es : List Expr} {te : TE} {ta : TA} {x f : Str} {p p1 p2 pos : Pos}
/-- Base.__init__(self, ..), Base an own class over ValueError without an __init__ of its own -/
theorem pe_baseinit {pl : Sem Bool} {C0 : Addr} {mc : Value} (hg : Gl X x) (hm : X.mg x = some (.ref C0)) (r : ClX.CRead X.K C0 mc) (vV : PySem.W.findCls X.K (.ref C0) mc "__init__" = some (.val (.builtin "ValueError.__init__"))) (ha : PA X (e :: es) ta)
    (hdb : (x == ("__debug__" : Str)) = false := by decide)
    (hc : eval (.Call (.Attribute (.Name x p1) "__init__" p2) (e :: es) [] pos) X.env = (do
      let ov ← eval (.Name x p1) X.env
      standAt p2.atName
      let (f, first) ← holding [ov] (getMethod ov "__init__" pl)
      callWith pos f first (backTo pos (starEach (e :: es) X.env)) (backToKw pos (keywordEach [] X.env))) := by rfl)
    (he : starEach (e :: es) X.env = (false, eval e X.env) :: starEach es X.env := by rfl) (hpl : (backTo pos (starEach es X.env)).any (·.1) = false := by rfl) :
    PE X (.Call (.Attribute (.Name x p1) "__init__" p2) (e :: es) [] pos) (tVeI X.K ta) := by
  refine ⟨fun pins s σ H Q I h => ?_⟩
  refine PySem.W.methodCall_KW (ld_glob I hg hm ?_ hdb) hc
  refine PySem.W.method_cls I.kIn r.ga (PySem.W.cls_value I.kIn r.rd vV rfl ?_)
  show wpAny _ _ (callWith pos (Value.builtin "ValueError.__init__") [] (backTo pos (starEach (e :: es) X.env)) []) _ _ _
  refine PyProof.Rows.callWith_method1 (thn (ha.run pos pins _ σ H _ (I.tok _) h) fun us s1 ⟨vs, H1, I1, r1, a, C, ws, ev, hl, T, ea, q⟩ => ?_) he hpl
  subst ev
  cases r1 with
  | @cons _ u0 _ ur ra rw' =>
    obtain rfl : u0 = Value.ref a := ra
    have hlen : ur.length ≤ sizeLine := by
      rw [← Paired.length rw', sizeLine_eq]
      omega
    exact oinit_ok T I1 ea hlen fun s' J => ⟨.non, H1, J, rfl, q⟩
/-- C(e, ..) as a value, C's own __init__ keeping sp -/
def tMkV (C : Addr) (sp : Sp) (ta : TA) : TE := fun σ H Q => ta σ H fun vs H1 => vs.length ≤ 1000 ∧ ∀ a, H1 a = none → sp (.ref a :: vs) (upd H1 a (exo a C none)) (fun v H2 => v = .non ∧ Q (.ref a) H2) (fun _ _ _ => False)
theorem run_oexv {CX : CXT} {C fI : Addr} {k : Nat} {fd : FuncData} {ps : List Str} {sp : Sp} {pins : List (Addr × Obj)} {s1 : Shared} {σ : L2.St} {H1 : Hp} {vs : List V} {us us' : List Value} {kws : List (Str × Value)} {Q : VK} (T : OexC X.K C) (iC : PySem.W.findIn X.K (.ref C) "__init__" = some (some (.ref fI))) (tI : PySem.W.typeIn X.K (.ref fI) = some (.type "function"))
    (F1 : FnOk X.prog X.w X.K X.mg X.base CX k fI fd ps sp) (hr : Room (k + 1) X.A) (hb : Binds X.K fd ps []) (hx : Passes CX X (fun _ _ _ => False))
    (I1 : Inv X pins σ H1 s1) (r1 : Vals vs us) (hz : vs.length ≤ 1000) (q1 : ∀ a, H1 a = none → sp (.ref a :: vs) (upd H1 a (exo a C none)) (fun v H2 => v = .non ∧ Q (.ref a) H2) (fun _ _ _ => False)) :
    wpAny (model X.prog X.w) X.A (call (.ref C) us) (EP X pins σ Q) X.xe s1 := by
  obtain ⟨nm, q, N, bs, bm, sn, sub, ab, col, dd, k0, k1, k2, k3, k5, hC, hbm⟩ := T.cls
  obtain ⟨hp, g, dr, tk, os⟩ := s1
  have hsz : hp.objs.size ≤ hp.objs.size + 1 := Nat.le_succ _
  have hn : H1 (hp.objs.size + 1) = none := I1.hok.fresh hsz
  have hq := q1 (hp.objs.size + 1) hn
  have kk : ∀ b o, hp.get? b = some o → ((hp.push (PySem.W.kdv_tup us)).push (PySem.HandSPX.excO C hp.objs.size)).get? b = some o := fun b o e => Heap.get?_push_of_some _ (Heap.get?_push_of_some _ e)
  have hget : ((hp.push (PySem.W.kdv_tup us)).push (PySem.HandSPX.excO C hp.objs.size)).get? (hp.objs.size + 1) = some (PySem.HandSPX.excO C hp.objs.size) := by heap_get
  have I2 : Inv X pins σ (upd H1 (hp.objs.size + 1) (exo (hp.objs.size + 1) C none)) ⟨(hp.push (PySem.W.kdv_tup us)).push (PySem.HandSPX.excO C hp.objs.size), g, dr, tk, os⟩ :=
    I1.laid (t' := tk) (a := hp.objs.size + 1) (o := exo (hp.objs.size + 1) C none) (h' := (hp.push (PySem.W.kdv_tup us)).push (PySem.HandSPX.excO C hp.objs.size)) kk hsz (exo_ok hget)
  have r2 : Vals (V.ref (hp.objs.size + 1) :: vs) (Value.ref (hp.objs.size + 1) :: us) := .cons rfl r1
  have hl : (Value.ref (hp.objs.size + 1) :: us ++ []).length = ps.length := by
    have e := r2.length
    rw [F1.len _ _ _ _ hq] at e
    rw [List.append_nil]
    exact e.symm
  have hus : us.length ≤ sizeLine := by
    rw [← Paired.length r1, sizeLine_eq]
    omega
  have hbb := hb _ (Value.ref (hp.objs.size + 1) :: us) I2.kIn hl
  rw [List.append_nil] at hbb
  refine wpAny_call (PySem.HandSPX.call_own F.excBase_ValueError (fun Y => PySem.HandSPX.refsVE_contains Y bm hbm) (I1.kIn _ _ hC) (PySem.W.looks_findIn I1.kIn iC) (fun self => PySem.W.bind_fn I1.kIn self tI) hus
    (codeAny_mono (F1.run _ X.stack _ _ ⟨Value.ref (hp.objs.size + 1) :: us, []⟩ (Value.ref (hp.objs.size + 1) :: us) _ _ (fun _ _ _ => False) (hr.make C us []) (I2.env0.make C us []) hbb r2 hq) fun r s' hq' => ?_))
  cases r with
  | error er => exact hx pins σ _ _ er s' I2 hq'
  | ok fl =>
    cases fl with
    | ret u =>
      obtain ⟨v, H2, os2, bare2, un2, hok2, rv, ev, q2⟩ := hq'
      subst ev
      obtain ⟨h2, g2, d2, t2, os'⟩ := s'
      exact ⟨rv, .ref (hp.objs.size + 1), H2, I2.call' (ch := []) os2 un2 hok2 bare2 (fun b z => absurd z (by simp)), rfl, q2⟩
    | next => exact False.elim hq'
    | brk => exact False.elim hq'
    | cont => exact False.elim hq'
theorem pe_oexv {CX : CXT} {C fI : Addr} {k : Nat} {fd : FuncData} {ps : List Str} {sp : Sp} (T : OexC X.K C) (iC : PySem.W.findIn X.K (.ref C) "__init__" = some (some (.ref fI))) (tI : PySem.W.typeIn X.K (.ref fI) = some (.type "function"))
    (F1 : FnOk X.prog X.w X.K X.mg X.base CX k fI fd ps sp) (hr : Room (k + 1) X.A) (hb : Binds X.K fd ps []) (hx : Passes CX X (fun _ _ _ => False)) (hg : Gl X x) (hm : X.mg x = some (.ref C)) (ha : PA X (e :: es) ta)
    (hdb : (x == ("__debug__" : Str)) = false := by decide) (he : starEach (e :: es) X.env = (false, eval e X.env) :: starEach es X.env := by rfl) (hpl : (backTo pos (starEach es X.env)).any (·.1) = false := by rfl) :
    PE X (.Call (.Name x p) (e :: es) [] pos) (tMkV C sp ta) := by
  refine ⟨fun pins s σ H Q I h => ?_⟩
  refine wpAny_Call_Name_kw (ld_glob I hg hm ?_ hdb)
  refine PySem.W.callWith_K (h₀ := X.base) I.ok.mod.kin T.kC (thn (ha.run pos pins s σ H _ I h) fun us s1 ⟨vs, H1, I1, r1, hz, q1⟩ => ⟨I1.kIn, ?_⟩) he hpl
  show wpAny _ _ (call (.ref C) us) _ _ _
  exact run_oexv (us' := us) (kws := []) T iC tI F1 hr hb hx I1 r1 hz q1
/-- e.f of an exception with a dict of its own -/
def tExF (K : PySem.W.Frag) (f : Str) (te : TE) : TE := fun σ H Q => te σ H fun x H1 => ∃ (a C d : Addr) (fs : List (Str × V)) (v : V), x = .ref a ∧ XfC K C ∧ PySem.W.findIn K (.ref C) f = some none ∧ H1 a = some (exo a C (some d)) ∧ H1 d = some (exd d fs) ∧ fs.lookup f = some v ∧ Q v H1
theorem pe_exf {n : Str} (he : PE X e te) (hb : attributeBase e n X.env (eval e X.env) = eval e X.env := by rfl) : PE X (.Attribute e n pos) (tExF X.K n te) := by
  refine ⟨fun pins s σ H Q I h => ?_⟩
  refine attr_of hb (thn (he.run pins s σ H _ I h) fun u s1 hh => ?_)
  obtain ⟨x, H1, I1, rx, a, C, d, fs, v, ex, T, hno, ea, ed, l, q⟩ := hh
  subst ex
  obtain rfl : u = Value.ref a := rx
  obtain ⟨t1, ho⟩ := exo_at I1.hok ea
  obtain ⟨mA, hns, hr⟩ := exd_at I1.hok ed
  obtain ⟨od, hod, hl⟩ := lookIn_ns hns
  obtain ⟨u, hu, ru⟩ := RelO.some_of (v := v) (o := mA n) (by rw [← l]; exact hr n)
  have J : PySem.W.InstAt s1.heap a _ C (some od) := ⟨ho, rfl, rfl, hod⟩
  exact HandSPX.exc_get I1.kIn J T.ga T.gg T.exC (PySem.W.findObj_own T.hdC hno rfl (by rw [hl, hu])) (handed_of ru) ⟨v, H1, I1.tok _, ru, q⟩
/-- what an own exception class must have for isinstance -/
structure IsxC (K : PySem.W.Frag) (D : Addr) : Prop where
  cl : (PySem.W.clsIn K D).isSome = true
  ga : PySem.W.findIn K (.ref D) "__getattribute__" = some (some (.builtin "BaseException.__getattribute__"))
  gg : PySem.W.findIn K (.ref D) "__getattr__" = some none
  ex : PySem.W.subIn K (.ref D) (.type "BaseException") = some true
  ca : PySem.W.findIn K (.ref D) "__class__" = some (some (.builtin "object.__class__"))
  cg : PySem.W.specialIn K (.builtin "object.__class__") "__get__" = some (some (.builtin "getset_descriptor.__get__"))
  ct : PySem.W.takesIn K (.builtin "object.__class__") = some true
  mo : PySem.W.mroIn K D (.type "object") = some true
/-- at a an exception of the class at D -/
def IsExc (H : Hp) (a D : Addr) : Prop := H a = some (ExO (.ref D) a) ∨ ∃ (dx : Addr) (fs : List (Str × V)), H a = some (exo a D (some dx)) ∧ H dx = some (exd dx fs)
def rIsX (K : PySem.W.Frag) : List V → Hp → VK → Prop := fun xs H Q => ∃ (a D : Addr) (c : V) (u : Value) (b : Bool), xs = [.ref a, c] ∧ ClsV c u ∧ IsxC K D ∧ IsExc H a D ∧ PySem.W.kitOne K (.ref D) u = some b ∧ Q (.bl b) H
theorem call_isX : CallR X (.builtin "isinstance") (rIsX X.K) := by
  intro pins s σ H xs us Q I r h
  obtain ⟨a, D, c, u, b, rfl, k, C, hE, e, q⟩ := h
  obtain ⟨u1, u2, rfl, r1, r2⟩ := vals2 r
  have e2 := k.eq r2
  subst e2
  cases (show u1 = Value.ref a from r1)
  rcases hE with hE | ⟨dx, fs, hE, hD⟩
  · obtain ⟨⟨oe, vs, ho, ⟨hz1, hz2⟩, hd, _⟩, _, _⟩ := I.hok a _ hE
    have J : PySem.W.InstAt s.heap a oe D none := ⟨ho, hz1, by unfold PySem.W.notCls; rw [hd] <;> rfl, by rw [hz2]; trivial⟩
    exact PySem.W.kia_one (PySem.W.kitx_exc C.cl C.ga C.gg C.ex C.ca C.cg C.ct C.mo) I.kIn J e (fun z => nomatch z) fun tk => ⟨.bl b, H, I.tok tk, rfl, q⟩
  · obtain ⟨t1, ho⟩ := exo_at I.hok hE
    obtain ⟨mA, hns, hr⟩ := exd_at I.hok hD
    obtain ⟨od, hod, hl⟩ := lookIn_ns hns
    have J : PySem.W.InstAt s.heap a _ D (some od) := ⟨ho, rfl, rfl, hod⟩
    exact PySem.W.kia_one (PySem.W.kitx_exc C.cl C.ga C.gg C.ex C.ca C.cg C.ct C.mo) I.kIn J e (fun z => nomatch z) fun tk => ⟨.bl b, H, I.tok tk, rfl, q⟩
end
end Stp
set_option Elab.async false
set_option linter.all false
set_option maxRecDepth 100000
set_option maxHeartbeats 4000000
namespace PySem
namespace StpKw
open PySem.W PySem.Calls PyProof.Rows PySem.HandSPX
section
variable {M : Model} {A : Around} {E : Value → Shared → Prop} {h : Heap} {g : Array GenState} {d : Drawn} {t : Nat} {os : OsState}
variable {nm q : Str} {C N : Addr} {bs bm bmB : List Value} {hdct : Bool} {sn : List Str} {sub : List Value} {ab : Bool} {col : Option Bool} {dd : Option Addr} {k0 k1 k2 k3 k5 : Option Value} {B newId initId : String}
theorem check_new_kw (F : ExcBaseFacts B newId initId bmB) (hT : ∀ X : String, bm.contains (.type X) = bmB.contains (.type X)) {rest : List Value} {kw : List (Str × Value)} {Q : Unit → Shared → Prop}
    (hC : h.get? C = some (excClassObj nm q C N bs bm hdct sn sub ab col dd k0 k1 k2 k3 k5 newId)) (hq : Q () ⟨h, g, d, t, os⟩) : wpAny M A (checkBuiltinCall newId ⟨.ref C :: rest, kw⟩) Q E ⟨h, g, d, t, os⟩ := by
  have hcont : (Value.ref C :: bm).contains (.type B) = true := by rw [List.contains_cons, hT, F.hasB, Bool.or_true]
  have hstar := F.noStar
  simp only [checkBuiltinCall, F.newKind, F.newSplit, F.newRow]
  repeat (first | refine wpAny_loadPart_at hC ?_ | (refine wpAny_isSubtype_exc hC ?_; rw [hcont]) | refine wpAny_staticBase_exc hC ?_ | refine wpAny_madeBy_exc hC ?_ | simp only [bne_self_eq_false, Bool.false_eq_true, if_false] | wp_step)
  exact hq
end
section
variable {prog : Program} {w : World} {A : Around} {E : Value → Shared → Prop} {R : Result → Shared → Prop} {h : Heap} {g : Array GenState} {d : Drawn} {t : Nat} {os : OsState}
variable {nm q : Str} {C N : Addr} {bs bm bmB : List Value} {hdct : Bool} {sn : List Str} {sub : List Value} {ab : Bool} {col : Option Bool} {dd : Option Addr} {k0 k1 k2 k3 k5 : Option Value} {B newId initId : String}
theorem new_kw (F : ExcBaseFacts B newId initId bmB) (hT : ∀ X : String, bm.contains (.type X) = bmB.contains (.type X)) {rest : List Value} {kw : List (Str × Value)}
    (hC : h.get? C = some (excClassObj nm q C N bs bm hdct sn sub ab col dd k0 k1 k2 k3 k5 newId))
    (hq : R (.ok (.ret (.ref (h.objs.size + 1)))) ⟨(h.push { cls := .type "tuple", data := .seq rest.toArray }).push
      { cls := .ref C, data := .fields #[.ref h.objs.size, .none, .none, .none, .bool false, .none] }, g, d, t, os⟩) (hrest : rest.length ≤ sizeLine) :
    codeAny (model prog w) A (.builtin newId ⟨.ref C :: rest, kw⟩) R ⟨h, g, d, t, os⟩ := by
  have hends := F.ends
  have hcB : (Value.ref C :: bm).contains (.type B) = true := by rw [List.contains_cons, hT, F.hasB, Bool.or_true]
  have hcA : (Value.ref C :: bm).contains (.type "AttributeError") = false := by rw [List.contains_cons, hT, F.noAttr]; rfl
  have hcN : (Value.ref C :: bm).contains (.type "NameError") = false := by rw [List.contains_cons, hT, F.noName]; rfl
  refine codeAny_builtinAt F.entry ?_
  unfold Builtin.«BaseException.__new__»
  refine wpAt_bind ?_
  show wpAt _ _ _ (stack >>= _) _ _ _
  refine wpAt_bind (wpAt_stack fun p below => wpAt_of_wpAny ?_)
  wp_walk
  refine wpAt_of_wpAny ?_
  rw [F.owner]
  repeat (first | with_reducible refine wpAny_madeHere_exc F.canon hC ?_ | with_reducible refine wpAny_loadPart_at hC ?_ | (with_reducible refine wpAny_isSubtype_exc hC ?_; first | rw [hcB] | rw [hcA] | rw [hcN]) | wp_step)
  show R _ _
  rw [Heap.size_push]
  exact hq

theorem type_call_kw (F : ExcBaseFacts B newId initId bmB) (hT : ∀ X : String, bm.contains (.type X) = bmB.contains (.type X)) {rest : List Value} {kw : List (Str × Value)} {fI : Addr} {Q : Fin → Shared → Prop}
    (hC : h.get? C = some (excClassObj nm q C N bs bm hdct sn sub ab col dd k0 k1 k2 k3 k5 newId))
    (hi : W.Looks (model prog w) h (typeLookup (.ref C) "__init__") (some (.ref fI))) (hb : ∀ self, W.Looks (model prog w) h (bindSpecial (.ref fI) self) (.ref fI, [self])) (hrest : rest.length ≤ sizeLine)
    (hq : codeAny (model prog w) A (.call (.ref fI) ⟨.ref (h.objs.size + 1) :: rest, kw⟩)
      (fun r s' => match r with | .ok (.ret v) => v = .none ∧ Q (.done (.ret (.ref (h.objs.size + 1)))) s' | .ok _ => False | .error e => E e s')
      ⟨(h.push (W.kdv_tup rest)).push (excO C h.objs.size), g, d, t, os⟩) :
    wpAny (model prog w) A (Builtin.«type.__call__» ⟨.ref C :: rest, kw⟩) Q E ⟨h, g, d, t, os⟩ := by
  repeat (first | with_reducible refine wpAny_loadPart_at hC ?_ | with_reducible refine wpAny_madeBy_exc hC ?_ | wp_step)
  refine codeAny_call_builtin_code (Code.quiet_builtin _ F.quiet) (check_new_kw F hT hC ?_)
  refine new_kw F hT hC ?_ hrest
  show wpAny _ _ _ _ _ _
  have k : ∀ b o, h.get? b = some o → ((h.push (W.kdv_tup rest)).push (excO C h.objs.size)).get? b = some o := fun b o e => Heap.get?_push_of_some _ (Heap.get?_push_of_some _ e)
  have hC₁ := k _ _ hC
  have hget : ((h.push (W.kdv_tup rest)).push (excO C h.objs.size)).get? (h.objs.size + 1) = some (excO C h.objs.size) := by heap_get
  have hcC : (Value.ref C :: bm).contains (.ref C) = true := by simp
  have i1 := hi.keeps k
  have b1 := (hb (.ref (h.objs.size + 1))).keeps k
  unfold isInstance
  repeat (first | with_reducible refine wpAny_loadPart_at hget ?_ | (with_reducible refine wpAny_isSubtype_exc hC₁ ?_; rw [hcC]) | wp_step)
  show wpAny _ _ (typeLookup (.ref C) _) _ _ _
  refine i1.at ?_
  refine wpAny_holding (wpAny_bind (b1.at ?_))
  refine wpAny_bind (wpAny_call (codeAny_mono hq fun r s' z => ?_))
  rcases r with e | (v | _ | _ | _) <;> first | exact z | exact z.elim | skip
  obtain ⟨rfl, z⟩ := z
  first
    | exact wpAny_pure (wpAny_pure z)
    | (wp_walk; exact z)
theorem check_type_call_kw {M : Model} {rest : List Value} {kw : List (Str × Value)} {Q : Unit → Shared → Prop} (hC : h.get? C = some (excClassObj nm q C N bs bm hdct sn sub ab col dd k0 k1 k2 k3 k5 newId))
    (hq : Q () ⟨h, g, d, t, os⟩) : wpAny M A (checkBuiltinCall "type.__call__" ⟨.ref C :: rest, kw⟩) Q E ⟨h, g, d, t, os⟩ := by
  have f3 := tc_sub
  have hT : (⟨h, g, d, t, os⟩ : Shared).TypeIs (.ref C) "type" := ⟨_, hC, rfl⟩
  simp only [checkBuiltinCall, tc_kind, tc_split]
  repeat (any_goals (first | assumption | with_reducible refine wpAny_loadPart_at hC ?_ | with_reducible refine wpAny_onRaise ?_ | with_reducible refine wpAny_map ?_ | wp_step))
theorem call_kw (F : ExcBaseFacts B newId initId bmB) (hT : ∀ X : String, bm.contains (.type X) = bmB.contains (.type X)) {rest : List Value} {kw : List (Str × Value)} {fI : Addr}
    (hC : h.get? C = some (excClassObj nm q C N bs bm hdct sn sub ab col dd k0 k1 k2 k3 k5 newId))
    (hi : W.Looks (model prog w) h (typeLookup (.ref C) "__init__") (some (.ref fI))) (hb : ∀ self, W.Looks (model prog w) h (bindSpecial (.ref fI) self) (.ref fI, [self])) (hrest : rest.length ≤ sizeLine)
    (hq : codeAny (model prog w) (A.under (.builtin "type.__call__" ⟨.ref C :: rest, kw⟩)) (.call (.ref fI) ⟨.ref (h.objs.size + 1) :: rest, kw⟩) (W.InitBack (h.objs.size + 1) R)
      ⟨(h.push (W.kdv_tup rest)).push (excO C h.objs.size), g, d, t, os⟩) :
    codeAny (model prog w) A (.call (.ref C) ⟨rest, kw⟩) R ⟨h, g, d, t, os⟩ := by
  have f1 := tc_lookup
  have f2 := tc_bind (.ref C)
  have hTy : (⟨h, g, d, t, os⟩ : Shared).TypeIs (.ref C) "type" := ⟨_, hC, rfl⟩
  refine codeAny_of_tree ?_
  show wpAny _ _ (callAny (.ref C) _) _ _ _
  repeat (any_goals (first | assumption | with_reducible refine wpAny_loadPart_at hC ?_ | wp_step))
  refine ⟨rfl, ?_⟩
  refine codeAny_call_builtin_at (Code.quiet_builtin _ (by decide +kernel)) entry_typeCall (check_type_call_kw hC (type_call_kw F hT hC hi hb hrest ?_))
  refine codeAny_mono hq fun r s' z => ?_
  rcases r with e | (v | _ | _ | _) <;> exact z
end
end StpKw
end PySem
namespace Stp
open PySem PySem.Spec PyProof.Rows L2
section
variable {X : Cx} {e : Expr} {ta : TA} {x ky : Str} {p pos : Pos} {kws : List Keyword}
/-- C(ky = e) as a value, C's own __init__ (self, ky) keeping sp -/
theorem pe_oexvK {CX : CXT} {C fI : Addr} {k : Nat} {fd : FuncData} {ps : List Str} {sp : Sp} (T : OexC X.K C) (iC : PySem.W.findIn X.K (.ref C) "__init__" = some (some (.ref fI))) (tI : PySem.W.typeIn X.K (.ref fI) = some (.type "function"))
    (F1 : FnOk X.prog X.w X.K X.mg X.base CX k fI fd ps sp) (hr : Room (k + 1) X.A) (hb : ∀ (s : Shared) (u v : Value), BindsTo s fd ⟨[u], [(ky, v)]⟩ (ps.zip [u, v])) (hx : Passes CX X (fun _ _ _ => False)) (hg : Gl X x) (hm : X.mg x = some (.ref C)) (hkw : PK X kws ta)
    (h1 : ∀ σ H Q, ta σ H Q → ta σ H fun vs H' => vs.length = 1 ∧ Q vs H')
    (hall : (backToKw pos (keywordEach kws X.env)).all (·.1.isSome) = true := by rfl) (hks : (backToKw pos (keywordEach kws X.env)).filterMap (·.1) = [ky] := by rfl)
    (hdb : (x == ("__debug__" : Str)) = false := by decide)
    (hpl : ((backTo pos (starEach [] X.env)).any (·.1) || (backToKw pos (keywordEach kws X.env)).any (·.1.isNone)) = false := by rfl) :
    PE X (.Call (.Name x p) [] kws pos) (tMkV C sp ta) := by
  refine ⟨fun pins s σ H Q I h => ?_⟩
  refine wpAny_Call_Name_kw (ld_glob I hg hm ?_ hdb)
  refine PySem.W.callWith_KW0 (h₀ := X.base) I.ok.mod.kin T.kC hall (thn (hkw.run pos pins s σ H _ I (h1 _ _ _ h)) fun us s1 ⟨vs, H1, I1, r1, hv1, hz, q1⟩ => ⟨I1.kIn, ?_⟩) hpl
  rw [hks]
  obtain ⟨v, rfl⟩ : ∃ v, vs = [v] := by
    match vs, hv1 with
    | [v], _ => exact ⟨v, rfl⟩
  cases r1 with
  | @cons _ u _ ur rv rn =>
  cases rn
  show wpAny _ _ (call (.ref C) [] [(ky, u)]) _ _ _
  obtain ⟨nm, q, N, bs, bm, sn, sub, ab, col, dd, k0, k1, k2, k3, k5, hC, hbm⟩ := T.cls
  obtain ⟨hp, g, dr, tk, os⟩ := s1
  have hsz : hp.objs.size ≤ hp.objs.size + 1 := Nat.le_succ _
  have hn : H1 (hp.objs.size + 1) = none := I1.hok.fresh hsz
  have hq := q1 (hp.objs.size + 1) hn
  have kk : ∀ b o, hp.get? b = some o → ((hp.push (PySem.W.kdv_tup [])).push (PySem.HandSPX.excO C hp.objs.size)).get? b = some o := fun b o e => Heap.get?_push_of_some _ (Heap.get?_push_of_some _ e)
  have hget : ((hp.push (PySem.W.kdv_tup [])).push (PySem.HandSPX.excO C hp.objs.size)).get? (hp.objs.size + 1) = some (PySem.HandSPX.excO C hp.objs.size) := by heap_get
  have I2 : Inv X pins σ (upd H1 (hp.objs.size + 1) (exo (hp.objs.size + 1) C none)) ⟨(hp.push (PySem.W.kdv_tup [])).push (PySem.HandSPX.excO C hp.objs.size), g, dr, tk, os⟩ :=
    I1.laid (t' := tk) (a := hp.objs.size + 1) (o := exo (hp.objs.size + 1) C none) (h' := (hp.push (PySem.W.kdv_tup [])).push (PySem.HandSPX.excO C hp.objs.size)) kk hsz (exo_ok hget)
  have r2 : Vals [V.ref (hp.objs.size + 1), v] [Value.ref (hp.objs.size + 1), u] := .cons rfl (.cons rv .nil)
  refine wpAny_call (PySem.StpKw.call_kw F.excBase_ValueError (fun Y => PySem.HandSPX.refsVE_contains Y bm hbm) (I1.kIn _ _ hC) (PySem.W.looks_findIn I1.kIn iC) (fun self => PySem.W.bind_fn I1.kIn self tI) (Nat.zero_le _)
    (codeAny_mono (F1.run _ X.stack _ _ ⟨[Value.ref (hp.objs.size + 1)], [(ky, u)]⟩ [Value.ref (hp.objs.size + 1), u] _ _ (fun _ _ _ => False) (hr.make C [] [(ky, u)]) (I2.env0.make C [] [(ky, u)]) (hb _ _ _) r2 hq) fun r s' hq' => ?_))
  cases r with
  | error er => exact hx pins σ _ _ er s' I2 hq'
  | ok fl =>
    cases fl with
    | ret u =>
      obtain ⟨v, H2, os2, bare2, un2, hok2, rv, ev, q2⟩ := hq'
      subst ev
      obtain ⟨h2, g2, d2, t2, os'⟩ := s'
      exact ⟨rv, .ref (hp.objs.size + 1), H2, I2.call' (ch := []) os2 un2 hok2 bare2 (fun b z => absurd z (by simp)), rfl, q2⟩
    | next => exact False.elim hq'
    | brk => exact False.elim hq'
    | cont => exact False.elim hq'
end
end Stp
set_option Elab.async false
set_option linter.all false
set_option maxRecDepth 100000
set_option maxHeartbeats 4000000
namespace Stp
open PySem PyProof.Rows L2
abbrev sPEi : Stmt := inClass (top 2) 0
abbrev sKinds : Stmt := top 31
abbrev sLaw : Stmt := top 32
/-- ParseError.__init__(self, line) -/
def spPE (C : Addr) : Sp := fun vs H Q _ => ∃ (a : Addr) (n : Int), vs = [.ref a, .int n] ∧ H a = some (exo a C none) ∧ n.natAbs.log2 < 1920 ∧
  ∀ d, H d = none → d ≠ a → Q .non (upd (upd H d (exd d [(("line" : Str), .int n)])) a (exo a C (some d)))
structure PETxt (K : PySem.W.Frag) (mg : Str → Option Value) (C C0 : Addr) (mc : Value) : Prop where
  g0 : mg "LineError" = some (.ref C0)
  rd : ClX.CRead K C0 mc
  vi : PySem.W.findCls K (.ref C0) mc "__init__" = some (.val (.builtin "ValueError.__init__"))
  ox : OexC K C
  nl : PySem.W.findIn K (.ref C) "line" = some none
section
variable {P : Program} {w : World} {K : PySem.W.Frag} {mg : Str → Option Value} {base : Heap}
theorem scPE : FnScope ["self", "line"] ["self", "line"] (defScope sPEi) := ⟨rfl, rfl, rfl, by decide +kernel, rfl, by decide +kernel, by decide +kernel⟩
theorem lenS (a b : Str) : (a ++ b).length = a.length + b.length := by
  show (a.cps ++ b.cps).size = _
  rw [Array.size_append]; rfl
theorem ok_pe {f C C0 : Addr} {mc : Value} {fd : FuncData} (F : Fun K "__init__" "ParseError.__init__" sPEi f fd) (T : PETxt K mg C C0 mc) : FnOk P w K mg base CX0 1 f fd ["self", "line"] (spPE C) := by
  refine F.ok scPE (fun vs H Q E h => ?_) (fun cdv A outer s H vs Q E hr h => ?_)
  · obtain ⟨a, n, rfl, _⟩ := h
    rfl
  · obtain ⟨a, n, rfl, ha, hn, k⟩ := h
    refine ⟨_, pss_cons (ps_expr (pe_baseinit (pl := _) rfl T.g0 T.rd T.vi (pa_cons (pv 0) (pa_cons (pe_joined (PJ.cons pe_str (PJ.cons (pe_fmt (pv 1)) (PJ.cons pe_str PJ.nil)))) pa_nil)))) (pss_one (ps_ost (pv 0) (pv 1))), ?_⟩
    have l1 := int_text_len_1921 hn
    have e1 : (Str.empty ++ ("line " : Str)).length = 5 := by decide +kernel
    have e3 : (" is wrong" : Str).length = 9 := by decide +kernel
    refine ⟨_, rfl, _, rfl, by rw [e1]; decide, _, rfl, .inr ⟨_, rfl, hn, _, rfl, ?_, _, rfl, ?_, ?_⟩⟩
    · rw [lenS, e1]
      exact Nat.le_trans (Nat.add_le_add_left l1 5) (by decide)
    · rw [lenS, lenS, e1, e3]
      exact Nat.le_trans (Nat.add_le_add_right (Nat.add_le_add_left l1 5) 9) (by decide)
    · refine ⟨a, C, _, rfl, (by show 1 ≤ 1000; decide), T.ox, ha, ?_⟩
      refine ⟨_, rfl, _, rfl, a, C, rfl, T.ox, T.nl, .inl ⟨ha, fun d hd hne => k d hd hne⟩⟩
end
end Stp
set_option Elab.async false
set_option linter.all false
set_option maxRecDepth 100000
set_option maxHeartbeats 4000000
namespace Stp
open PySem PyProof.Rows L2
theorem IsExc.same {H H' : Hp} {a D : Addr} (h : IsExc H a D) (s : Same H H') : IsExc H' a D := by
  rcases h with h | ⟨dx, fs, h, hd⟩
  · exact .inl (s _ _ h)
  · exact .inr ⟨dx, fs, s _ _ h, s _ _ hd⟩
/-- the error classes by number: c i; L: LineError -/
structure ErrTxt (K : PySem.W.Frag) (mg : Str → Option Value) (c : Nat → Addr) (L : Addr) : Prop where
  isi : mg "isinstance" = none
  ve : mg "ValueError" = none
  gL : mg "LineError" = some (.ref L)
  xL : PySem.W.excIn K L [.type "ValueError", .type "Exception", .type "BaseException", .type "object"] "ValueError.__new__" = true
  kL : PySem.W.keepIn K (.ref L) = true
  isxL : IsxC K L
  isx : ∀ i, i < 25 → IsxC K (c i)
  kit : ∀ i j, i < 25 → j < 25 → PySem.W.kitOne K (.ref (c i)) (.ref (c j)) = some (decide (j = i))
  kitL : ∀ j, j < 25 → PySem.W.kitOne K (.ref L) (.ref (c j)) = some false
  toL : ∀ i, i < 25 → PySem.W.kitOne K (.ref (c i)) (.ref L) = some true
  toV : ∀ i, i < 25 → PySem.W.kitOne K (.ref (c i)) (.type "ValueError") = some true
  toVL : PySem.W.kitOne K (.ref L) (.type "ValueError") = some true
  xc : ∀ i, 0 < i → i < 25 → PySem.W.excIn K (c i) [.type "ValueError", .type "Exception", .type "BaseException", .type "object"] "ValueError.__new__" = true
  kc : ∀ i, i < 25 → PySem.W.keepIn K (.ref (c i)) = true
  g0 : mg "ParseError" = some (.ref (c 0))
  g1 : mg "InvalidWord" = some (.ref (c 1))
  g2 : mg "InvalidBudget" = some (.ref (c 2))
  g3 : mg "InvalidWriter" = some (.ref (c 3))
  g4 : mg "InvalidReader" = some (.ref (c 4))
  g5 : mg "UnknownState" = some (.ref (c 5))
  g6 : mg "InvalidInput" = some (.ref (c 6))
  g7 : mg "InvalidSign" = some (.ref (c 7))
  g8 : mg "InvalidMove" = some (.ref (c 8))
  g9 : mg "InvalidMessage" = some (.ref (c 9))
  g10 : mg "InvalidLine" = some (.ref (c 10))
  g11 : mg "Mismatch" = some (.ref (c 11))
  g12 : mg "InvalidFraction" = some (.ref (c 12))
  g13 : mg "InvalidNumber" = some (.ref (c 13))
  g14 : mg "InvalidHearing" = some (.ref (c 14))
  g15 : mg "InvalidPair" = some (.ref (c 15))
  g16 : mg "TooLarge" = some (.ref (c 16))
  g17 : mg "Waiting" = some (.ref (c 17))
  g18 : mg "NothingWaits" = some (.ref (c 18))
  g19 : mg "NothingToUndo" = some (.ref (c 19))
  g20 : mg "InvalidName" = some (.ref (c 20))
  g21 : mg "DuplicateName" = some (.ref (c 21))
  g22 : mg "UnknownName" = some (.ref (c 22))
  g23 : mg "UnknownMark" = some (.ref (c 23))
  g24 : mg "InvalidCommand" = some (.ref (c 24))
/-- _law_kinds(error): for each class whether it is one -/
def spKinds (K : PySem.W.Frag) (c : Nat → Addr) : Sp := fun vs H Q _ => ∃ (a D : Addr) (bs : Nat → Bool), vs = [.ref a] ∧ IsExc H a D ∧ IsxC K D ∧ (∀ i, i < 25 → PySem.W.kitOne K (.ref D) (.ref (c i)) = some (bs i)) ∧
  ∀ (H' : Hp) (p : Addr), Same H H' → H p = none → H' p = some (.lst (((List.range 25).map bs).map V.bl)) → Q (.ref p) H'
section
variable {P : Program} {w : World} {K : PySem.W.Frag} {mg : Str → Option Value} {base : Heap}
theorem scK : FnScope ["_law_error", "_law_found"] ["_law_error"] (defScope sKinds) := ⟨rfl, rfl, rfl, by decide +kernel, rfl, by decide +kernel, by decide +kernel⟩
/-- one turn of the row of appends -/
theorem kinds_app {c : Nat → Addr} {D : Ends} {t2 : TS} {a Dc p C : Addr} {b : Bool} {H0 H : Hp} {xs ys : List V} (hy : xs ++ [V.bl b] = ys) (hE : IsExc H0 a Dc) (hI : IsxC K Dc) (hk : PySem.W.kitOne K (.ref Dc) (.ref C) = some b) (s0 : Same H0 H) (n0 : H0 p = none) (hp : H p = some (.lst xs)) (hl : xs.length < 1000)
    (q : ∀ H', Same H0 H' → H' p = some (.lst ys) → t2 D [some (.ref a), some (.ref p)] H') :
    tSeq (tDrop (tBM K "list" rAppend (tVar 1) (tCons (tCB (rIsX K) (tCons (tVar 0) (tCons (tC (.ref C)) tNil))) tNil))) t2 D [some (.ref a), some (.ref p)] H := by
  refine ⟨_, rfl, .inl ⟨rfl, _, SqL.of hp⟩, _, rfl, a, Dc, _, _, _, rfl, .own _, hI, hE.same s0, hk, p, _, _, rfl, rfl, hp, ?_, ?_⟩
  · exact Nat.lt_of_lt_of_le hl (by decide)
  · refine q _ (fun e o h => ?_) (by rw [← hy]; exact upd_same)
    rw [upd_ne (ne_of_none h n0)]
    exact s0 _ _ h
theorem ok_kinds {f L : Addr} {c : Nat → Addr} {fd : FuncData} (F : Fun K "_law_kinds" "_law_kinds" sKinds f fd) (T : ErrTxt K mg c L) : FnOk P w K mg base CX0 1 f fd ["_law_error"] (spKinds K c) := by
  refine F.ok scK (fun vs H Q E h => ?_) (fun cdv A outer s H vs Q E hr h => ?_)
  · obtain ⟨a, D, bs, rfl, _⟩ := h
    rfl
  · obtain ⟨a, D, bs, rfl, hE, hI, hk, k⟩ := h
    refine ⟨_,
      pss_cons (ps_set (i := 1) scK.nd rfl (Or.inl rfl) (pe_lst (pa_cons (pe_callB call_isX (by rfl) T.isi (by decide +kernel) (pa_cons (pv 0) (pa_cons (pe_glob (v := .ref (c 0)) rfl T.g0 rfl) pa_nil))) pa_nil)))
      (pss_cons (ps_expr (pe_bm PySem.F.plainAttrs_list PySem.F.slot_list_append PySem.F.type_list_append mt_append (pv 1) (pa_cons (pe_callB call_isX (by rfl) T.isi (by decide +kernel) (pa_cons (pv 0) (pa_cons (pe_glob (v := .ref (c 1)) rfl T.g1 rfl) pa_nil))) pa_nil)))
      (pss_cons (ps_expr (pe_bm PySem.F.plainAttrs_list PySem.F.slot_list_append PySem.F.type_list_append mt_append (pv 1) (pa_cons (pe_callB call_isX (by rfl) T.isi (by decide +kernel) (pa_cons (pv 0) (pa_cons (pe_glob (v := .ref (c 2)) rfl T.g2 rfl) pa_nil))) pa_nil)))
      (pss_cons (ps_expr (pe_bm PySem.F.plainAttrs_list PySem.F.slot_list_append PySem.F.type_list_append mt_append (pv 1) (pa_cons (pe_callB call_isX (by rfl) T.isi (by decide +kernel) (pa_cons (pv 0) (pa_cons (pe_glob (v := .ref (c 3)) rfl T.g3 rfl) pa_nil))) pa_nil)))
      (pss_cons (ps_expr (pe_bm PySem.F.plainAttrs_list PySem.F.slot_list_append PySem.F.type_list_append mt_append (pv 1) (pa_cons (pe_callB call_isX (by rfl) T.isi (by decide +kernel) (pa_cons (pv 0) (pa_cons (pe_glob (v := .ref (c 4)) rfl T.g4 rfl) pa_nil))) pa_nil)))
      (pss_cons (ps_expr (pe_bm PySem.F.plainAttrs_list PySem.F.slot_list_append PySem.F.type_list_append mt_append (pv 1) (pa_cons (pe_callB call_isX (by rfl) T.isi (by decide +kernel) (pa_cons (pv 0) (pa_cons (pe_glob (v := .ref (c 5)) rfl T.g5 rfl) pa_nil))) pa_nil)))
      (pss_cons (ps_expr (pe_bm PySem.F.plainAttrs_list PySem.F.slot_list_append PySem.F.type_list_append mt_append (pv 1) (pa_cons (pe_callB call_isX (by rfl) T.isi (by decide +kernel) (pa_cons (pv 0) (pa_cons (pe_glob (v := .ref (c 6)) rfl T.g6 rfl) pa_nil))) pa_nil)))
      (pss_cons (ps_expr (pe_bm PySem.F.plainAttrs_list PySem.F.slot_list_append PySem.F.type_list_append mt_append (pv 1) (pa_cons (pe_callB call_isX (by rfl) T.isi (by decide +kernel) (pa_cons (pv 0) (pa_cons (pe_glob (v := .ref (c 7)) rfl T.g7 rfl) pa_nil))) pa_nil)))
      (pss_cons (ps_expr (pe_bm PySem.F.plainAttrs_list PySem.F.slot_list_append PySem.F.type_list_append mt_append (pv 1) (pa_cons (pe_callB call_isX (by rfl) T.isi (by decide +kernel) (pa_cons (pv 0) (pa_cons (pe_glob (v := .ref (c 8)) rfl T.g8 rfl) pa_nil))) pa_nil)))
      (pss_cons (ps_expr (pe_bm PySem.F.plainAttrs_list PySem.F.slot_list_append PySem.F.type_list_append mt_append (pv 1) (pa_cons (pe_callB call_isX (by rfl) T.isi (by decide +kernel) (pa_cons (pv 0) (pa_cons (pe_glob (v := .ref (c 9)) rfl T.g9 rfl) pa_nil))) pa_nil)))
      (pss_cons (ps_expr (pe_bm PySem.F.plainAttrs_list PySem.F.slot_list_append PySem.F.type_list_append mt_append (pv 1) (pa_cons (pe_callB call_isX (by rfl) T.isi (by decide +kernel) (pa_cons (pv 0) (pa_cons (pe_glob (v := .ref (c 10)) rfl T.g10 rfl) pa_nil))) pa_nil)))
      (pss_cons (ps_expr (pe_bm PySem.F.plainAttrs_list PySem.F.slot_list_append PySem.F.type_list_append mt_append (pv 1) (pa_cons (pe_callB call_isX (by rfl) T.isi (by decide +kernel) (pa_cons (pv 0) (pa_cons (pe_glob (v := .ref (c 11)) rfl T.g11 rfl) pa_nil))) pa_nil)))
      (pss_cons (ps_expr (pe_bm PySem.F.plainAttrs_list PySem.F.slot_list_append PySem.F.type_list_append mt_append (pv 1) (pa_cons (pe_callB call_isX (by rfl) T.isi (by decide +kernel) (pa_cons (pv 0) (pa_cons (pe_glob (v := .ref (c 12)) rfl T.g12 rfl) pa_nil))) pa_nil)))
      (pss_cons (ps_expr (pe_bm PySem.F.plainAttrs_list PySem.F.slot_list_append PySem.F.type_list_append mt_append (pv 1) (pa_cons (pe_callB call_isX (by rfl) T.isi (by decide +kernel) (pa_cons (pv 0) (pa_cons (pe_glob (v := .ref (c 13)) rfl T.g13 rfl) pa_nil))) pa_nil)))
      (pss_cons (ps_expr (pe_bm PySem.F.plainAttrs_list PySem.F.slot_list_append PySem.F.type_list_append mt_append (pv 1) (pa_cons (pe_callB call_isX (by rfl) T.isi (by decide +kernel) (pa_cons (pv 0) (pa_cons (pe_glob (v := .ref (c 14)) rfl T.g14 rfl) pa_nil))) pa_nil)))
      (pss_cons (ps_expr (pe_bm PySem.F.plainAttrs_list PySem.F.slot_list_append PySem.F.type_list_append mt_append (pv 1) (pa_cons (pe_callB call_isX (by rfl) T.isi (by decide +kernel) (pa_cons (pv 0) (pa_cons (pe_glob (v := .ref (c 15)) rfl T.g15 rfl) pa_nil))) pa_nil)))
      (pss_cons (ps_expr (pe_bm PySem.F.plainAttrs_list PySem.F.slot_list_append PySem.F.type_list_append mt_append (pv 1) (pa_cons (pe_callB call_isX (by rfl) T.isi (by decide +kernel) (pa_cons (pv 0) (pa_cons (pe_glob (v := .ref (c 16)) rfl T.g16 rfl) pa_nil))) pa_nil)))
      (pss_cons (ps_expr (pe_bm PySem.F.plainAttrs_list PySem.F.slot_list_append PySem.F.type_list_append mt_append (pv 1) (pa_cons (pe_callB call_isX (by rfl) T.isi (by decide +kernel) (pa_cons (pv 0) (pa_cons (pe_glob (v := .ref (c 17)) rfl T.g17 rfl) pa_nil))) pa_nil)))
      (pss_cons (ps_expr (pe_bm PySem.F.plainAttrs_list PySem.F.slot_list_append PySem.F.type_list_append mt_append (pv 1) (pa_cons (pe_callB call_isX (by rfl) T.isi (by decide +kernel) (pa_cons (pv 0) (pa_cons (pe_glob (v := .ref (c 18)) rfl T.g18 rfl) pa_nil))) pa_nil)))
      (pss_cons (ps_expr (pe_bm PySem.F.plainAttrs_list PySem.F.slot_list_append PySem.F.type_list_append mt_append (pv 1) (pa_cons (pe_callB call_isX (by rfl) T.isi (by decide +kernel) (pa_cons (pv 0) (pa_cons (pe_glob (v := .ref (c 19)) rfl T.g19 rfl) pa_nil))) pa_nil)))
      (pss_cons (ps_expr (pe_bm PySem.F.plainAttrs_list PySem.F.slot_list_append PySem.F.type_list_append mt_append (pv 1) (pa_cons (pe_callB call_isX (by rfl) T.isi (by decide +kernel) (pa_cons (pv 0) (pa_cons (pe_glob (v := .ref (c 20)) rfl T.g20 rfl) pa_nil))) pa_nil)))
      (pss_cons (ps_expr (pe_bm PySem.F.plainAttrs_list PySem.F.slot_list_append PySem.F.type_list_append mt_append (pv 1) (pa_cons (pe_callB call_isX (by rfl) T.isi (by decide +kernel) (pa_cons (pv 0) (pa_cons (pe_glob (v := .ref (c 21)) rfl T.g21 rfl) pa_nil))) pa_nil)))
      (pss_cons (ps_expr (pe_bm PySem.F.plainAttrs_list PySem.F.slot_list_append PySem.F.type_list_append mt_append (pv 1) (pa_cons (pe_callB call_isX (by rfl) T.isi (by decide +kernel) (pa_cons (pv 0) (pa_cons (pe_glob (v := .ref (c 22)) rfl T.g22 rfl) pa_nil))) pa_nil)))
      (pss_cons (ps_expr (pe_bm PySem.F.plainAttrs_list PySem.F.slot_list_append PySem.F.type_list_append mt_append (pv 1) (pa_cons (pe_callB call_isX (by rfl) T.isi (by decide +kernel) (pa_cons (pv 0) (pa_cons (pe_glob (v := .ref (c 23)) rfl T.g23 rfl) pa_nil))) pa_nil)))
      (pss_cons (ps_expr (pe_bm PySem.F.plainAttrs_list PySem.F.slot_list_append PySem.F.type_list_append mt_append (pv 1) (pa_cons (pe_callB call_isX (by rfl) T.isi (by decide +kernel) (pa_cons (pv 0) (pa_cons (pe_glob (v := .ref (c 24)) rfl T.g24 rfl) pa_nil))) pa_nil)))
      (pss_one (ps_ret (pv 1))))))))))))))))))))))))))), ?_⟩
    refine ⟨_, rfl, a, D, _, _, _, rfl, .own _, hI, hE, hk 0 (by decide), (by show 1 ≤ sizeLine; decide), fun p np => ?_⟩
    have s0 : Same H (upd H p (.lst [.bl (bs 0)])) := fun e o h => by rw [upd_ne (ne_of_none h np)]; exact h
    have h0 : upd H p (.lst [.bl (bs 0)]) p = some (.lst [.bl (bs 0)]) := upd_same
    dsimp only [gName]
    show tSeq _ _ _ [some (V.ref a), some (V.ref p)] _
    refine kinds_app (c := c) (ys := [.bl (bs 0), .bl (bs 1)]) rfl hE hI
       (hk 1 (by decide)) s0 np h0 (by show 1 < 1000; decide) fun H1 s1 h1 => ?_
    refine kinds_app (c := c) (ys := [.bl (bs 0), .bl (bs 1), .bl (bs 2)]) rfl hE hI
       (hk 2 (by decide)) s1 np h1 (by show 2 < 1000; decide) fun H2 s2 h2 => ?_
    refine kinds_app (c := c) (ys := [.bl (bs 0), .bl (bs 1), .bl (bs 2), .bl (bs 3)]) rfl hE hI
       (hk 3 (by decide)) s2 np h2 (by show 3 < 1000; decide) fun H3 s3 h3 => ?_
    refine kinds_app (c := c) (ys := [.bl (bs 0), .bl (bs 1), .bl (bs 2), .bl (bs 3), .bl (bs 4)]) rfl hE hI
       (hk 4 (by decide)) s3 np h3 (by show 4 < 1000; decide) fun H4 s4 h4 => ?_
    refine kinds_app (c := c) (ys := [.bl (bs 0), .bl (bs 1), .bl (bs 2), .bl (bs 3), .bl (bs 4), .bl (bs 5)]) rfl hE hI
       (hk 5 (by decide)) s4 np h4 (by show 5 < 1000; decide) fun H5 s5 h5 => ?_
    refine kinds_app (c := c) (ys := [.bl (bs 0), .bl (bs 1), .bl (bs 2), .bl (bs 3), .bl (bs 4), .bl (bs 5), .bl (bs 6)]) rfl hE hI
       (hk 6 (by decide)) s5 np h5 (by show 6 < 1000; decide) fun H6 s6 h6 => ?_
    refine kinds_app (c := c) (ys := [.bl (bs 0), .bl (bs 1), .bl (bs 2), .bl (bs 3), .bl (bs 4), .bl (bs 5), .bl (bs 6), .bl (bs 7)]) rfl hE hI
       (hk 7 (by decide)) s6 np h6 (by show 7 < 1000; decide) fun H7 s7 h7 => ?_
    refine kinds_app (c := c) (ys := [.bl (bs 0), .bl (bs 1), .bl (bs 2), .bl (bs 3), .bl (bs 4), .bl (bs 5), .bl (bs 6), .bl (bs 7), .bl (bs 8)]) rfl hE hI
       (hk 8 (by decide)) s7 np h7 (by show 8 < 1000; decide) fun H8 s8 h8 => ?_
    refine kinds_app (c := c) (ys := [.bl (bs 0), .bl (bs 1), .bl (bs 2), .bl (bs 3), .bl (bs 4), .bl (bs 5), .bl (bs 6), .bl (bs 7), .bl (bs 8), .bl (bs 9)]) rfl hE hI
       (hk 9 (by decide)) s8 np h8 (by show 9 < 1000; decide) fun H9 s9 h9 => ?_
    refine kinds_app (c := c) (ys := [.bl (bs 0), .bl (bs 1), .bl (bs 2), .bl (bs 3), .bl (bs 4), .bl (bs 5), .bl (bs 6), .bl (bs 7), .bl (bs 8), .bl (bs 9), .bl (bs 10)]) rfl hE hI
       (hk 10 (by decide)) s9 np h9 (by show 10 < 1000; decide) fun H10 s10 h10 => ?_
    refine kinds_app (c := c) (ys := [.bl (bs 0), .bl (bs 1), .bl (bs 2), .bl (bs 3), .bl (bs 4), .bl (bs 5), .bl (bs 6), .bl (bs 7), .bl (bs 8), .bl (bs 9), .bl (bs 10), .bl (bs 11)]) rfl hE hI
       (hk 11 (by decide)) s10 np h10 (by show 11 < 1000; decide) fun H11 s11 h11 => ?_
    refine kinds_app (c := c) (ys := [.bl (bs 0), .bl (bs 1), .bl (bs 2), .bl (bs 3), .bl (bs 4), .bl (bs 5), .bl (bs 6), .bl (bs 7), .bl (bs 8), .bl (bs 9), .bl (bs 10), .bl (bs 11), .bl (bs 12)]) rfl hE hI
       (hk 12 (by decide)) s11 np h11 (by show 12 < 1000; decide) fun H12 s12 h12 => ?_
    refine kinds_app (c := c) (ys := [.bl (bs 0), .bl (bs 1), .bl (bs 2), .bl (bs 3), .bl (bs 4), .bl (bs 5), .bl (bs 6), .bl (bs 7), .bl (bs 8), .bl (bs 9), .bl (bs 10), .bl (bs 11), .bl (bs 12), .bl (bs 13)]) rfl hE hI
       (hk 13 (by decide)) s12 np h12 (by show 13 < 1000; decide) fun H13 s13 h13 => ?_
    refine kinds_app (c := c) (ys := [.bl (bs 0), .bl (bs 1), .bl (bs 2), .bl (bs 3), .bl (bs 4), .bl (bs 5), .bl (bs 6), .bl (bs 7), .bl (bs 8), .bl (bs 9), .bl (bs 10), .bl (bs 11), .bl (bs 12), .bl (bs 13), .bl (bs 14)]) rfl hE hI
       (hk 14 (by decide)) s13 np h13 (by show 14 < 1000; decide) fun H14 s14 h14 => ?_
    refine kinds_app (c := c) (ys := [.bl (bs 0), .bl (bs 1), .bl (bs 2), .bl (bs 3), .bl (bs 4), .bl (bs 5), .bl (bs 6), .bl (bs 7), .bl (bs 8), .bl (bs 9), .bl (bs 10), .bl (bs 11), .bl (bs 12), .bl (bs 13), .bl (bs 14), .bl (bs 15)]) rfl hE hI
       (hk 15 (by decide)) s14 np h14 (by show 15 < 1000; decide) fun H15 s15 h15 => ?_
    refine kinds_app (c := c) (ys := [.bl (bs 0), .bl (bs 1), .bl (bs 2), .bl (bs 3), .bl (bs 4), .bl (bs 5), .bl (bs 6), .bl (bs 7), .bl (bs 8), .bl (bs 9), .bl (bs 10), .bl (bs 11), .bl (bs 12), .bl (bs 13), .bl (bs 14), .bl (bs 15), .bl (bs 16)]) rfl hE hI
       (hk 16 (by decide)) s15 np h15 (by show 16 < 1000; decide) fun H16 s16 h16 => ?_
    refine kinds_app (c := c) (ys := [.bl (bs 0), .bl (bs 1), .bl (bs 2), .bl (bs 3), .bl (bs 4), .bl (bs 5), .bl (bs 6), .bl (bs 7), .bl (bs 8), .bl (bs 9), .bl (bs 10), .bl (bs 11), .bl (bs 12), .bl (bs 13), .bl (bs 14), .bl (bs 15), .bl (bs 16), .bl (bs 17)]) rfl hE hI
       (hk 17 (by decide)) s16 np h16 (by show 17 < 1000; decide) fun H17 s17 h17 => ?_
    refine kinds_app (c := c) (ys := [.bl (bs 0), .bl (bs 1), .bl (bs 2), .bl (bs 3), .bl (bs 4), .bl (bs 5), .bl (bs 6), .bl (bs 7), .bl (bs 8), .bl (bs 9), .bl (bs 10), .bl (bs 11), .bl (bs 12), .bl (bs 13), .bl (bs 14), .bl (bs 15), .bl (bs 16), .bl (bs 17), .bl (bs 18)]) rfl hE hI
       (hk 18 (by decide)) s17 np h17 (by show 18 < 1000; decide) fun H18 s18 h18 => ?_
    refine kinds_app (c := c) (ys := [.bl (bs 0), .bl (bs 1), .bl (bs 2), .bl (bs 3), .bl (bs 4), .bl (bs 5), .bl (bs 6), .bl (bs 7), .bl (bs 8), .bl (bs 9), .bl (bs 10), .bl (bs 11), .bl (bs 12), .bl (bs 13), .bl (bs 14), .bl (bs 15), .bl (bs 16), .bl (bs 17), .bl (bs 18), .bl (bs 19)]) rfl hE hI
       (hk 19 (by decide)) s18 np h18 (by show 19 < 1000; decide) fun H19 s19 h19 => ?_
    refine kinds_app (c := c) (ys := [.bl (bs 0), .bl (bs 1), .bl (bs 2), .bl (bs 3), .bl (bs 4), .bl (bs 5), .bl (bs 6), .bl (bs 7), .bl (bs 8), .bl (bs 9), .bl (bs 10), .bl (bs 11), .bl (bs 12), .bl (bs 13), .bl (bs 14), .bl (bs 15), .bl (bs 16), .bl (bs 17), .bl (bs 18), .bl (bs 19), .bl (bs 20)]) rfl hE hI
       (hk 20 (by decide)) s19 np h19 (by show 20 < 1000; decide) fun H20 s20 h20 => ?_
    refine kinds_app (c := c) (ys := [.bl (bs 0), .bl (bs 1), .bl (bs 2), .bl (bs 3), .bl (bs 4), .bl (bs 5), .bl (bs 6), .bl (bs 7), .bl (bs 8), .bl (bs 9), .bl (bs 10), .bl (bs 11), .bl (bs 12), .bl (bs 13), .bl (bs 14), .bl (bs 15), .bl (bs 16), .bl (bs 17), .bl (bs 18), .bl (bs 19), .bl (bs 20), .bl (bs 21)]) rfl hE hI
       (hk 21 (by decide)) s20 np h20 (by show 21 < 1000; decide) fun H21 s21 h21 => ?_
    refine kinds_app (c := c) (ys := [.bl (bs 0), .bl (bs 1), .bl (bs 2), .bl (bs 3), .bl (bs 4), .bl (bs 5), .bl (bs 6), .bl (bs 7), .bl (bs 8), .bl (bs 9), .bl (bs 10), .bl (bs 11), .bl (bs 12), .bl (bs 13), .bl (bs 14), .bl (bs 15), .bl (bs 16), .bl (bs 17), .bl (bs 18), .bl (bs 19), .bl (bs 20), .bl (bs 21), .bl (bs 22)]) rfl hE hI
       (hk 22 (by decide)) s21 np h21 (by show 22 < 1000; decide) fun H22 s22 h22 => ?_
    refine kinds_app (c := c) (ys := [.bl (bs 0), .bl (bs 1), .bl (bs 2), .bl (bs 3), .bl (bs 4), .bl (bs 5), .bl (bs 6), .bl (bs 7), .bl (bs 8), .bl (bs 9), .bl (bs 10), .bl (bs 11), .bl (bs 12), .bl (bs 13), .bl (bs 14), .bl (bs 15), .bl (bs 16), .bl (bs 17), .bl (bs 18), .bl (bs 19), .bl (bs 20), .bl (bs 21), .bl (bs 22), .bl (bs 23)]) rfl hE hI
       (hk 23 (by decide)) s22 np h22 (by show 23 < 1000; decide) fun H23 s23 h23 => ?_
    refine kinds_app (c := c) (ys := [.bl (bs 0), .bl (bs 1), .bl (bs 2), .bl (bs 3), .bl (bs 4), .bl (bs 5), .bl (bs 6), .bl (bs 7), .bl (bs 8), .bl (bs 9), .bl (bs 10), .bl (bs 11), .bl (bs 12), .bl (bs 13), .bl (bs 14), .bl (bs 15), .bl (bs 16), .bl (bs 17), .bl (bs 18), .bl (bs 19), .bl (bs 20), .bl (bs 21), .bl (bs 22), .bl (bs 23), .bl (bs 24)]) rfl hE hI
       (hk 24 (by decide)) s23 np h23 (by show 24 < 1000; decide) fun H24 s24 h24 => ?_
    exact ⟨_, rfl, k _ p s24 np h24⟩
end
end Stp
set_option Elab.async false
set_option linter.all false
set_option maxRecDepth 100000
set_option maxHeartbeats 4000000
namespace Stp
open PySem PyProof.Rows L2
/-- the n first errors stand in a list at p; the first one has d as its line -/
structure Errs (c : Nat → Addr) (n : Nat) (d : Int) (H : Hp) (p : Addr) (es : List Addr) : Prop where
  lst : H p = some (.lst (es.map V.ref))
  len : es.length = n
  exc : ∀ i a, es[i]? = some a → IsExc H a (c i)
  line : ∃ a dx, es[0]? = some a ∧ H a = some (exo a (c 0) (some dx)) ∧ H dx = some (exd dx [(("line" : Str), .int d)])
theorem Errs.same {c : Nat → Addr} {n : Nat} {d : Int} {H H' : Hp} {p : Addr} {es : List Addr} (E : Errs c n d H p es) (s : Same H H') : Errs c n d H' p es := by
  obtain ⟨h1, h2, h3, a, dx, h4, h5, h6⟩ := E
  exact ⟨s _ _ h1, h2, fun i a e => (h3 i a e).same s, a, dx, h4, s _ _ h5, s _ _ h6⟩
theorem same_new {H : Hp} {p : Addr} {o : HO} (h : H p = none) : Same H (upd H p o) := fun b u e => by
  rw [upd_ne (ne_of_none e h)]
  exact e
theorem dp_bools {K : PySem.W.Frag} {H : Hp} : ∀ (cs : List Bool), DpAll K H (cs.map V.bl) (cs.map PyData.bool)
  | [] => .nil
  | a :: l => .cons (.bl a) (dp_bools l)
theorem shp_bools (cs : List Bool) : Shp 1 (.list (cs.map PyData.bool)) := Shp.list fun d m => by
  obtain ⟨i, _, rfl⟩ := List.mem_map.mp m
  exact Shp.bool i
theorem if_t {c A B : Prop} [Decidable c] (h : c) (a : A) : if c then A else B := by
  rw [if_pos h]
  exact a
def tExc (C : Addr) (ta : TE) : TE := fun σ H Q => ta σ H fun _ H1 => ∀ a, H1 a = none → Q (.ref a) (upd H1 a (ExO (.ref C) a))
/-- _law_errors = _law_errors + [A(note), B(note), C(note)] -/
theorem cat3 {c : Nat → Addr} {n : Nat} {d : Int} {H : Hp} {p : Addr} {es : List Addr} {D : Ends} {t2 : TS} {s0 s1 s2 s5 s6 : Option V} {v3 : V} {C1 C2 C3 : Addr} (e1 : C1 = c n) (e2 : C2 = c (n + 1)) (e3 : C3 = c (n + 2)) (hn : n + 3 ≤ 25) (E : Errs c n d H p es)
    (q : ∀ H' p' es', Same H H' → Errs c (n + 3) d H' p' es' → t2 D [s0, s1, s2, some v3, some (.ref p'), s5, s6] H') :
    tSeq (tAsg (tOp rCat (tVar 4) (tLst (tCons (tExc C1 (tVar 3)) (tCons (tExc C2 (tVar 3)) (tCons (tExc C3 (tVar 3)) tNil))))) (gName 4)) t2 D [s0, s1, s2, some v3, some (.ref p), s5, s6] H := by
  subst e1 e2 e3
  refine ⟨_, rfl, v3, rfl, fun a1 n1 => ⟨v3, rfl, fun a2 n2 => ⟨v3, rfl, fun a3 n3 => ?_⟩⟩⟩
  refine ⟨(by show 3 ≤ sizeLine; decide), fun l nl => ?_⟩
  have S1 := same_new (o := ExO (.ref (c n)) a1) n1
  have S2 := same_new (o := ExO (.ref (c (n + 1))) a2) n2
  have S3 := same_new (o := ExO (.ref (c (n + 2))) a3) n3
  have S4 := same_new (o := .lst [.ref a1, .ref a2, .ref a3]) nl
  have S := ((S1.trans S2).trans S3).trans S4
  have E4 := E.same S
  refine ⟨p, l, _, _, rfl, rfl, E4.lst, upd_same, ?_, fun r nr => ?_⟩
  · rw [List.length_map, E.len]
    exact Nat.le_trans (show n + 3 ≤ 25 from hn) (by decide)
  · have S5 := same_new (o := .lst (es.map V.ref ++ [.ref a1, .ref a2, .ref a3])) nr
    refine q _ r (es ++ [a1, a2, a3]) (S.trans S5) ⟨?_, ?_, fun i a e => ?_, ?_⟩
    · show upd _ r _ r = _
      rw [upd_same, List.map_append]
      rfl
    · rw [List.length_append, E.len]; rfl
    · by_cases hi : i < es.length
      · rw [List.getElem?_append_left hi] at e
        exact (E4.exc i a e).same S5
      · rw [List.getElem?_append_right (Nat.le_of_not_lt hi), E.len] at e
        have hlen : i - n < 3 := by
          have z := (List.getElem?_eq_some_iff.mp e).1
          exact z
        have hin : n ≤ i := by rw [← E.len]; exact Nat.le_of_not_lt hi
        refine IsExc.same (.inl ?_) S5
        obtain h | h | h : i = n ∨ i = n + 1 ∨ i = n + 2 := by omega
        · subst h
          rw [Nat.sub_self] at e
          cases e
          exact S4 _ _ (S3 _ _ (S2 _ _ upd_same))
        · subst h
          rw [Nat.add_sub_cancel_left] at e
          cases e
          exact S4 _ _ (S3 _ _ upd_same)
        · subst h
          rw [Nat.add_sub_cancel_left] at e
          cases e
          exact S4 _ _ upd_same
    · obtain ⟨a, dx, h4, h5, h6⟩ := E4.line
      refine ⟨a, dx, ?_, S5 _ _ h5, S5 _ _ h6⟩
      rw [List.getElem?_append_left (List.getElem?_eq_some_iff.mp h4).1]
      exact h4
structure LawTxt (mg : Str → Option Value) : Prop where
  range : mg "range" = none
  any : mg "any" = none
  len : mg "len" = none
def spLaw (K : PySem.W.Frag) : Sp := fun vs H Q _ => ∃ (a : Addr) (ns : List Int), vs = [.ref a] ∧ SqL K H a (ns.map V.int) ∧ ∀ H', Q (.bl true) H'
theorem abcd {d : Int} (h0 : 0 ≤ d) (h1 : d < 4) : ∃ c, atI ("abcd" : Str).cps.toList d = some c := by
  obtain h | h | h | h : d = 0 ∨ d = 1 ∨ d = 2 ∨ d = 3 := by omega
  all_goals
    subst h
    exact ⟨_, rfl⟩
section
variable {P : Program} {w : World} {K : PySem.W.Frag} {mg : Str → Option Value} {base : Heap}
abbrev NL : List Str := ["_law_script", "_law_pen_here", "_law_index", "_law_note", "_law_errors", "_law_k", "_law_j"]
theorem scL : FnScope NL ["_law_script"] (defScope sLaw) := ⟨rfl, rfl, rfl, by decide +kernel, rfl, by decide +kernel, by decide +kernel⟩
theorem ok_law {f fP fN fD fK fE L : Addr} {c : Nat → Addr} {mc : Value} {fd fdP fdN fdD fdK fdE : FuncData} (F : Fun K "law" "law" sLaw f fd) (T : ErrTxt K mg c L) (TL : LawTxt mg) (TP : PenTxt mg) (TE : PETxt K mg (c 0) L mc)
    (FP : Fun K "_law_pen" "_law_pen" sPen fP fdP) (gP : mg "_law_pen" = some (.ref fP)) (bP : Binds K fdP ["_law_script"] [])
    (FN : Fun K "_law_next" "_law_next" sNext fN fdN) (gN : mg "_law_next" = some (.ref fN)) (bN : Binds K fdN ["_law_pen_here"] [])
    (FD : Fun K "_law_draw" "_law_draw" sDraw fD fdD) (gD : mg "_law_draw" = some (.ref fD)) (bD : Binds K fdD ["_law_pen_here", "_law_under"] [])
    (FK : Fun K "_law_kinds" "_law_kinds" sKinds fK fdK) (gK : mg "_law_kinds" = some (.ref fK)) (bK : Binds K fdK ["_law_error"] [])
    (FE : Fun K "__init__" "ParseError.__init__" sPEi fE fdE) (iE : PySem.W.findIn K (.ref (c 0)) "__init__" = some (some (.ref fE))) (tE : PySem.W.typeIn K (.ref fE) = some (.type "function")) (bE : Binds K fdE ["self", "line"] []) (kE : ∀ (s : Shared) (u v : Value), BindsTo s fdE ⟨[u], [(("line" : Str), v)]⟩ ((["self", "line"] : List Str).zip [u, v])) (xf : XfC K (c 0)) :
    FnOk P w K mg base CX0 3 f fd ["_law_script"] (spLaw K) := by
  have GP : FnOk P w K mg base CX0 1 fP fdP ["_law_script"] (spPen K) := ok_pen FP TP
  have GD : FnOk P w K mg base CX0 2 fD fdD ["_law_pen_here", "_law_under"] spDraw := ok_draw FD TP FN gN bN
  have GK : FnOk P w K mg base CX0 1 fK fdK ["_law_error"] (spKinds K c) := ok_kinds FK T
  have GE : FnOk P w K mg base CX0 1 fE fdE ["self", "line"] (spPE (c 0)) := ok_pe FE TE
  refine F.ok scL (fun vs H Q E h => ?_) (fun cdv A outer s H vs Q E hr h => ?_)
  · obtain ⟨a, ns, rfl, _⟩ := h
    rfl
  · obtain ⟨a, ns, rfl, hS, k⟩ := h
    have hr1 : Room 1 _ := hr.mono (by decide)
    refine ⟨_,
      pss_cons (ps_set (i := 1) scL.nd rfl (Or.inl rfl) (pe_call GP hr1 rfl gP FP.kp bP .nil pass0 (pa_cons (pv 0) pa_nil)))
      (pss_cons (ps_par (i := 2) (j := 3) (by rfl) scL.nd rfl rfl (by decide) rfl rfl (pa_cons (pe_call GD hr rfl gD FD.kp bD .nil pass0 (pa_cons (pv 1) (pa_cons (pe_op op_pow pe_int pe_int) pa_nil))) (pa_cons (pe_op op_add_str pe_str (pe_ix ix_str pe_str (pe_call GD hr rfl gD FD.kp bD .nil pass0 (pa_cons (pv 1) (pa_cons pe_int pa_nil))) (fun _ _ => rfl))) pa_nil)) (by rfl))
      (pss_cons (ps_set (i := 4) scL.nd rfl (Or.inl rfl) (pe_lst (pa_cons (pe_oexv TE.ox iE tE GE hr bE pass0 rfl T.g0 (pa_cons (pv 2) pa_nil)) pa_nil)))
      (pss_cons (ps_set (i := 4) scL.nd rfl (Or.inl rfl) (pe_op op_cat (pv 4) (pe_lst (pa_cons (pe_exc1 PySem.F.excBase_ValueError (T.xc 1 (by decide) (by decide)) T.g1 (T.kc 1 (by decide)) rfl (pv 3)) (pa_cons (pe_exc1 PySem.F.excBase_ValueError (T.xc 2 (by decide) (by decide)) T.g2 (T.kc 2 (by decide)) rfl (pv 3)) (pa_cons (pe_exc1 PySem.F.excBase_ValueError (T.xc 3 (by decide) (by decide)) T.g3 (T.kc 3 (by decide)) rfl (pv 3)) pa_nil))))))
      (pss_cons (ps_set (i := 4) scL.nd rfl (Or.inl rfl) (pe_op op_cat (pv 4) (pe_lst (pa_cons (pe_exc1 PySem.F.excBase_ValueError (T.xc 4 (by decide) (by decide)) T.g4 (T.kc 4 (by decide)) rfl (pv 3)) (pa_cons (pe_exc1 PySem.F.excBase_ValueError (T.xc 5 (by decide) (by decide)) T.g5 (T.kc 5 (by decide)) rfl (pv 3)) (pa_cons (pe_exc1 PySem.F.excBase_ValueError (T.xc 6 (by decide) (by decide)) T.g6 (T.kc 6 (by decide)) rfl (pv 3)) pa_nil))))))
      (pss_cons (ps_set (i := 4) scL.nd rfl (Or.inl rfl) (pe_op op_cat (pv 4) (pe_lst (pa_cons (pe_exc1 PySem.F.excBase_ValueError (T.xc 7 (by decide) (by decide)) T.g7 (T.kc 7 (by decide)) rfl (pv 3)) (pa_cons (pe_exc1 PySem.F.excBase_ValueError (T.xc 8 (by decide) (by decide)) T.g8 (T.kc 8 (by decide)) rfl (pv 3)) (pa_cons (pe_exc1 PySem.F.excBase_ValueError (T.xc 9 (by decide) (by decide)) T.g9 (T.kc 9 (by decide)) rfl (pv 3)) pa_nil))))))
      (pss_cons (ps_set (i := 4) scL.nd rfl (Or.inl rfl) (pe_op op_cat (pv 4) (pe_lst (pa_cons (pe_exc1 PySem.F.excBase_ValueError (T.xc 10 (by decide) (by decide)) T.g10 (T.kc 10 (by decide)) rfl (pv 3)) (pa_cons (pe_exc1 PySem.F.excBase_ValueError (T.xc 11 (by decide) (by decide)) T.g11 (T.kc 11 (by decide)) rfl (pv 3)) (pa_cons (pe_exc1 PySem.F.excBase_ValueError (T.xc 12 (by decide) (by decide)) T.g12 (T.kc 12 (by decide)) rfl (pv 3)) pa_nil))))))
      (pss_cons (ps_set (i := 4) scL.nd rfl (Or.inl rfl) (pe_op op_cat (pv 4) (pe_lst (pa_cons (pe_exc1 PySem.F.excBase_ValueError (T.xc 13 (by decide) (by decide)) T.g13 (T.kc 13 (by decide)) rfl (pv 3)) (pa_cons (pe_exc1 PySem.F.excBase_ValueError (T.xc 14 (by decide) (by decide)) T.g14 (T.kc 14 (by decide)) rfl (pv 3)) (pa_cons (pe_exc1 PySem.F.excBase_ValueError (T.xc 15 (by decide) (by decide)) T.g15 (T.kc 15 (by decide)) rfl (pv 3)) pa_nil))))))
      (pss_cons (ps_set (i := 4) scL.nd rfl (Or.inl rfl) (pe_op op_cat (pv 4) (pe_lst (pa_cons (pe_exc1 PySem.F.excBase_ValueError (T.xc 16 (by decide) (by decide)) T.g16 (T.kc 16 (by decide)) rfl (pv 3)) (pa_cons (pe_exc1 PySem.F.excBase_ValueError (T.xc 17 (by decide) (by decide)) T.g17 (T.kc 17 (by decide)) rfl (pv 3)) (pa_cons (pe_exc1 PySem.F.excBase_ValueError (T.xc 18 (by decide) (by decide)) T.g18 (T.kc 18 (by decide)) rfl (pv 3)) pa_nil))))))
      (pss_cons (ps_set (i := 4) scL.nd rfl (Or.inl rfl) (pe_op op_cat (pv 4) (pe_lst (pa_cons (pe_exc1 PySem.F.excBase_ValueError (T.xc 19 (by decide) (by decide)) T.g19 (T.kc 19 (by decide)) rfl (pv 3)) (pa_cons (pe_exc1 PySem.F.excBase_ValueError (T.xc 20 (by decide) (by decide)) T.g20 (T.kc 20 (by decide)) rfl (pv 3)) (pa_cons (pe_exc1 PySem.F.excBase_ValueError (T.xc 21 (by decide) (by decide)) T.g21 (T.kc 21 (by decide)) rfl (pv 3)) pa_nil))))))
      (pss_cons (ps_set (i := 4) scL.nd rfl (Or.inl rfl) (pe_op op_cat (pv 4) (pe_lst (pa_cons (pe_exc1 PySem.F.excBase_ValueError (T.xc 22 (by decide) (by decide)) T.g22 (T.kc 22 (by decide)) rfl (pv 3)) (pa_cons (pe_exc1 PySem.F.excBase_ValueError (T.xc 23 (by decide) (by decide)) T.g23 (T.kc 23 (by decide)) rfl (pv 3)) (pa_cons (pe_exc1 PySem.F.excBase_ValueError (T.xc 24 (by decide) (by decide)) T.g24 (T.kc 24 (by decide)) rfl (pv 3)) pa_nil))))))
      (pss_cons (ps_for PassesOwn.never rfl (pi_range1 rfl TL.range (pa_cons (pe_callB call_len_seq (by rfl) TL.len PySem.boot_len (pa_cons (pv 4) pa_nil)) pa_nil)) (pg_name (i := 5) scL.nd rfl (Or.inr rfl))
        (pss_cons (ps_if (PW.pt (pw_or (pt_not (pt_val (pe_callB call_isX (by rfl) T.isi (by decide +kernel) (pa_cons (pe_ix ix_list (pv 4) (pv 5) (fun _ _ => rfl)) (pa_cons (pe_bltn (v := .ty "ValueError") (by rfl) T.ve PyProof.Rows.Boot.«ValueError» rfl) pa_nil))))) (pw_or1 (pt_not (pt_val (pe_callB call_isX (by rfl) T.isi (by decide +kernel) (pa_cons (pe_ix ix_list (pv 4) (pv 5) (fun _ _ => rfl)) (pa_cons (pe_glob (v := .ref L) rfl T.gL rfl) pa_nil)))))))) (pss_one (ps_ret pe_bl)) pss_nil)
        (pss_one (ps_if (pt_cmpR (op_neD hr.units) (pe_call GK hr1 rfl gK FK.kp bK .nil pass0 (pa_cons (pe_ix ix_list (pv 4) (pv 5) (fun _ _ => rfl)) pa_nil)) (pe_lc (own := [("_law_j", 6)]) (g := gName 6) (tt := tYes) rfl scL.nd (pi_range1 rfl TL.range (pa_cons (pe_callB call_len_seq (by rfl) TL.len PySem.boot_len (pa_cons (pv 4) pa_nil)) pa_nil)) (blkOk_by (N := NL) (sc := defScope sLaw) (by decide +kernel)) (fun _ _ _ _ _ => pg_name (i := 6) scL.nd rfl (Or.inl rfl)) (fun _ _ _ _ _ => pts_nil) (fun _ _ _ _ _ => pe_cmpR op_eq (pv 6) (pv 5) (nomark _))) (nomark _)) (pss_one (ps_ret pe_bl)) pss_nil))))
      (pss_cons (ps_if (PW.pt (pw_or (pt_not (pt_val (pe_callB call_isX (by rfl) T.isi (by decide +kernel) (pa_cons (pe_exc1 PySem.F.excBase_ValueError T.xL T.gL T.kL rfl (pv 3)) (pa_cons (pe_bltn (v := .ty "ValueError") (by rfl) T.ve PyProof.Rows.Boot.«ValueError» rfl) pa_nil))))) (pw_or1 (pt_val (pe_callB (cr_any rfl) (by rfl) TL.any (by decide +kernel) (pa_cons (pe_call GK hr1 rfl gK FK.kp bK .nil pass0 (pa_cons (pe_exc1 PySem.F.excBase_ValueError T.xL T.gL T.kL rfl (pv 3)) pa_nil)) pa_nil)))))) (pss_one (ps_ret pe_bl)) pss_nil)
      (pss_one (ps_ret (pe_and (pe_cmpR op_eq (pe_exf (pe_ix ix_list (pv 4) pe_int (fun _ _ => rfl))) (pv 2) (nomark _))
        (pe_and (pe_cmpR op_eq (pe_exf (pe_oexvK TE.ox iE tE GE hr kE pass0 rfl T.g0 (pk_cons pe_int pk_nil) (fun _ _ _ h => ⟨rfl, h⟩))) pe_int (nomark _))
        (pe_one (pe_cmpR op_eq (pe_exf (pe_oexv TE.ox iE tE GE hr bE pass0 rfl T.g0 (pa_cons pe_int pa_nil))) pe_int (nomark _))))))))))))))))))), ?_⟩
    refine ⟨_, rfl, a, ns, rfl, hS, fun H1 pn s1 n1 P1 => ?_⟩
    refine ⟨_, rfl, _, _, rfl, rfl, ⟨by decide, by decide, by decide⟩, pn, _, 0, rfl, P1, by decide, by decide, by decide, fun H2 d b2 P2 d0 d1 => ?_⟩
    refine ⟨_, rfl, pn, 4, 1, rfl, P2, by decide, by decide, by decide, fun H3 d2 b3 P3 e0 e1 => ?_⟩
    obtain ⟨c2, hc2⟩ := abcd e0 e1
    refine ⟨_, _, c2, rfl, rfl, (by show 4 ≤ sizeLine; decide), hc2, _, _, rfl, rfl, (by show 5 ≤ sizeLine; decide), _, _, rfl, ?_⟩
    have hlog : d.natAbs.log2 < 1920 := by
      have z : d < 10 ^ (6 : Int).toNat := d1
      rw [show (10 : Int) ^ (6 : Int).toNat = 1000000 by decide] at z
      have : d.natAbs < 2 ^ 1920 := Nat.lt_of_lt_of_le (by omega) (show 1000000 ≤ 2 ^ 1920 by decide)
      by_cases hz : d.natAbs = 0
      · rw [hz]; decide
      · exact (Nat.log2_lt hz).mpr this
    refine ⟨_, rfl, (by show 1 ≤ 1000; decide), fun x nx => ?_⟩
    refine ⟨x, d, rfl, upd_same, hlog, fun dx ndx hne => ⟨rfl, ?_⟩⟩
    refine ⟨(by show 1 ≤ sizeLine; decide), fun p4 np4 => ?_⟩
    generalize eH : upd _ p4 _ = H4
    have nx4 : p4 ≠ x := fun z => by rw [z, upd_same] at np4; cases np4
    rw [upd_ne nx4] at np4
    have nd4 : p4 ≠ dx := fun z => by rw [z, upd_same] at np4; cases np4
    have E1 : Errs c 1 d H4 p4 [x] := by
      have hx : H4 x = some (exo x (c 0) (some dx)) := by rw [← eH, upd_ne nx4.symm, upd_same]
      have hd : H4 dx = some (exd dx [(("line" : Str), .int d)]) := by rw [← eH, upd_ne nd4.symm, upd_ne hne, upd_same]
      refine ⟨by rw [← eH, upd_same]; rfl, rfl, fun i a e => ?_, x, dx, rfl, hx, hd⟩
      cases i with
      | zero => cases e; exact .inr ⟨dx, _, hx, hd⟩
      | succ i => cases e
    clear eH np4 nx4 nd4 ndx hne nx
    dsimp only [gName]
    generalize (V.str (("note" : Str) ++ ⟨#[c2]⟩)) = v3
    show tSeq _ _ _ [some (V.ref a), some (V.ref pn), some (V.int d), some v3, some (V.ref p4), none, none] _
    refine cat3 rfl rfl rfl (by decide) E1 fun H5 p5 es2 _ E2 => ?_
    refine cat3 rfl rfl rfl (by decide) E2 fun H6 p6 es3 _ E3 => ?_
    refine cat3 rfl rfl rfl (by decide) E3 fun H7 p7 es4 _ E4 => ?_
    refine cat3 rfl rfl rfl (by decide) E4 fun H8 p8 es5 _ E5 => ?_
    refine cat3 rfl rfl rfl (by decide) E5 fun H9 p9 es6 _ E6 => ?_
    refine cat3 rfl rfl rfl (by decide) E6 fun H10 p10 es7 _ E7 => ?_
    refine cat3 rfl rfl rfl (by decide) E7 fun H11 p11 es8 _ E8 => ?_
    refine cat3 rfl rfl rfl (by decide) E8 fun H12 p12 es9 _ E9 => ?_
    have El : (es9.map V.ref).length = 25 := by rw [List.length_map, E9.len]
    have at9 : ∀ i, i < 25 → ∃ a, es9[i]? = some a := fun i hi => ⟨_, List.getElem?_eq_getElem (by rw [E9.len]; exact hi)⟩
    refine ⟨_, rfl, p12, _, rfl, .inl (SqL.of E9.lst), ?_⟩
    rw [El]
    refine ⟨25, rfl, by decide, by decide, for_range (lo := 0) (n := 25) (fun i σ H' => ∃ v5, σ = [some (V.ref a), some (V.ref pn), some (V.int d), some v3, some (V.ref p12), v5, none] ∧ Same H12 H')
      ⟨none, rfl, Same.refl _⟩ ?_ ?_⟩
    · rintro i σ H' hi ⟨v5, rfl, S'⟩
      obtain ⟨ai, hai⟩ := at9 i hi
      have hat : ∀ {xs : List V}, xs = es9.map V.ref → atI xs (0 + (i : Int)) = some (V.ref ai) := fun e => by
        rw [e, Int.zero_add]
        exact atI_nat (by rw [List.getElem?_map, hai]; rfl)
      have E' := E9.same S'
      refine ⟨_, rfl, _, rfl, p12, _, _, _, rfl, rfl, SqL.of E'.lst, hat rfl, ai, c i, _, _, _, rfl, .ty _, T.isx i hi, E'.exc i ai hai, T.toV i hi, _, rfl, iteF ?_⟩
      refine ⟨_, rfl, _, rfl, p12, _, _, _, rfl, rfl, SqL.of E'.lst, hat rfl, ai, c i, _, _, _, rfl, .own _, T.isx i hi, E'.exc i ai hai, T.toL i hi, _, rfl, iteF ?_⟩
      refine ⟨_, rfl, _, rfl, p12, _, _, _, rfl, rfl, SqL.of E'.lst, hat rfl, ai, c i, fun j => decide (j = i), rfl, E'.exc i ai hai, T.isx i hi, fun j hj => T.kit i j hi hj, fun Hq q Sq nq hq => ?_⟩
      have Eq := E'.same Sq
      refine ⟨_, rfl, p12, _, rfl, .inl (SqL.of Eq.lst), ?_⟩
      rw [El]
      refine ⟨25, rfl, by decide, by decide, fun Dd nD => lc_range (lo := 0) (n := 25) (fun m Hm => Same Hq Hm ∧ Hm Dd = some (.lst (((List.range m).map fun j => decide (j = i)).map V.bl)))
        ⟨same_new nD, upd_same⟩ ?_ ?_⟩
      · rintro m Hm hm ⟨Sm, hD⟩
        refine ⟨rfl, ?_⟩
        refine ⟨_, rfl, _, rfl, rfl, _, hD, ?_, ?_⟩
        · rw [List.length_map, List.length_map, List.length_range]
          exact Nat.lt_trans hm (by decide)
        · refine ⟨fun b o e => ?_, ?_⟩
          · rw [upd_ne (ne_of_none e nD)]
            exact Sm _ _ e
          · rw [upd_same, List.range_succ, List.map_append, List.map_append]
            have ed : decide (V.int (0 + (m : Int)) = V.int (0 + (i : Int))) = decide (m = i) := by
              by_cases h : m = i
              · subst h; rw [decide_eq_true rfl, decide_eq_true rfl]
              · rw [decide_eq_false h, decide_eq_false]
                intro z
                injection z with z
                omega
            show some (HO.lst (_ ++ [V.bl (decide (V.int (0 + (m : Int)) = V.int (0 + (i : Int))))])) = _
            rw [ed]
            rfl
      · rintro Hm ⟨Sm, hD⟩
        refine ⟨_, _, .lst (SqL.of (Sm _ _ hq)) (dp_bools _), .lst (SqL.of hD) (dp_bools _), (shp_bools _).ok (by decide), (shp_bools _).ok (by decide), _, rfl, ?_⟩
        rw [SeqAt.eqv_refl _ (shp_bools _).1]
        refine iteF ?_
        exact ⟨_, rfl, (S'.trans Sq).trans Sm⟩
    · rintro σ H' ⟨v5, rfl, S'⟩
      have E' := E9.same S'
      refine ⟨_, rfl, fun x nx => ?_⟩
      refine ⟨x, L, _, _, _, rfl, .ty _, T.isxL, .inl upd_same, T.toVL, _, rfl, iteF ?_⟩
      have S1 := same_new (o := ExO (.ref L) x) nx
      refine ⟨_, rfl, fun y ny => ?_⟩
      have S2 := same_new (o := ExO (.ref L) y) ny
      refine ⟨y, L, fun _ => false, rfl, .inl upd_same, T.isxL, fun j hj => T.kitL j hj, fun Hq q Sq nq hq => ?_⟩
      refine ⟨q, _, rfl, SqL.of hq, _, rfl, ?_⟩
      rw [show ((List.range 25).map fun _ => false).any id = false by decide]
      refine iteF ?_
      have Eq := ((E'.same S1).same S2).same Sq
      obtain ⟨a0, dx0, h4, h5, h6⟩ := Eq.line
      have lk : ∀ v : V, List.lookup ("line" : Str) ([(("line" : Str), v)] : List (Str × V)) = some v := fun v => by simp [List.lookup]
      refine ⟨_, rfl, p12, _, _, .ref a0, rfl, rfl, SqL.of Eq.lst, atI_nat (j := 0) (by rw [List.getElem?_map, h4]; rfl), a0, c 0, dx0, _, _, rfl, xf, TE.nl, h5, h6, lk _, _, rfl, rfl, _, rfl, if_t (decide_eq_true rfl) ?_⟩
      refine ⟨(by show 1 ≤ 1000; decide), fun x2 nx2 => ⟨x2, 5, rfl, upd_same, by decide, fun d5 nd5 ne5 => ⟨rfl, ?_⟩⟩⟩
      refine ⟨x2, c 0, d5, _, _, rfl, xf, TE.nl, upd_same, by rw [upd_ne ne5]; exact upd_same, lk _, rfl, _, rfl, if_t (decide_eq_true rfl) ?_⟩
      refine ⟨(by show 1 ≤ 1000; decide), fun x3 nx3 => ⟨x3, 0, rfl, upd_same, by decide, fun d6 nd6 ne6 => ⟨rfl, ?_⟩⟩⟩
      refine ⟨x3, c 0, d6, _, _, rfl, xf, TE.nl, upd_same, by rw [upd_ne ne6]; exact upd_same, lk _, rfl, ?_⟩
      show Q (V.bl (decide (V.int 0 = V.int 0))) _
      rw [decide_eq_true rfl]
      exact k _
end
end Stp
set_option Elab.async false
set_option linter.all false
set_option maxRecDepth 100000
set_option maxHeartbeats 4000000
namespace Stp
open PySem PyProof.Rows L2
abbrev veL : List Value := [.type "ValueError", .type "Exception", .type "BaseException", .type "object"]
def errNames : List Str := ["ParseError", "InvalidWord", "InvalidBudget", "InvalidWriter", "InvalidReader", "UnknownState", "InvalidInput", "InvalidSign", "InvalidMove", "InvalidMessage", "InvalidLine", "Mismatch", "InvalidFraction", "InvalidNumber", "InvalidHearing", "InvalidPair", "TooLarge", "Waiting", "NothingWaits", "NothingToUndo", "InvalidName", "DuplicateName", "UnknownName", "UnknownMark", "InvalidCommand"]
def adr (K : PySem.W.Frag) (n : Str) : Addr := match PySem.W.nsIn K mainGlobals n with
  | some (some (.ref a)) => a
  | _ => 0
def glB (K : PySem.W.Frag) (n : Str) : Bool := decide (PySem.W.nsIn K mainGlobals n = some (some (.ref (adr K n))))
def isxB (K : PySem.W.Frag) (D : Addr) : Bool := (PySem.W.clsIn K D).isSome && (decide (PySem.W.findIn K (.ref D) "__getattribute__" = some (some (.builtin "BaseException.__getattribute__"))) && (decide (PySem.W.findIn K (.ref D) "__getattr__" = some none) && (decide (PySem.W.subIn K (.ref D) (.type "BaseException") = some true) &&
  (decide (PySem.W.findIn K (.ref D) "__class__" = some (some (.builtin "object.__class__"))) && (decide (PySem.W.specialIn K (.builtin "object.__class__") "__get__" = some (some (.builtin "getset_descriptor.__get__"))) && (decide (PySem.W.takesIn K (.builtin "object.__class__") = some true) && decide (PySem.W.mroIn K D (.type "object") = some true)))))))
theorem isxB_ok {K : PySem.W.Frag} {D : Addr} (h : isxB K D = true) : IsxC K D := by
  obtain ⟨h1, h⟩ := Bool.and_eq_true_iff.mp h
  obtain ⟨h2, h⟩ := Bool.and_eq_true_iff.mp h
  obtain ⟨h3, h⟩ := Bool.and_eq_true_iff.mp h
  obtain ⟨h4, h⟩ := Bool.and_eq_true_iff.mp h
  obtain ⟨h5, h⟩ := Bool.and_eq_true_iff.mp h
  obtain ⟨h6, h⟩ := Bool.and_eq_true_iff.mp h
  obtain ⟨h7, h8⟩ := Bool.and_eq_true_iff.mp h
  exact ⟨h1, of_decide_eq_true h2, of_decide_eq_true h3, of_decide_eq_true h4, of_decide_eq_true h5, of_decide_eq_true h6, of_decide_eq_true h7, of_decide_eq_true h8⟩
/-- the address of the i-th error class -/
def cA (K : PySem.W.Frag) (i : Nat) : Addr := adr K (errNames.getD i "")
def errB1 (K : PySem.W.Frag) (L : Addr) (i : Nat) : Bool := glB K (errNames.getD i "") && (isxB K (cA K i) && (decide (PySem.W.kitOne K (.ref L) (.ref (cA K i)) = some false) && (decide (PySem.W.kitOne K (.ref (cA K i)) (.ref L) = some true) && (decide (PySem.W.kitOne K (.ref (cA K i)) (.type "ValueError") = some true) &&
  (PySem.W.keepIn K (.ref (cA K i)) && ((decide (i = 0) || PySem.W.excIn K (cA K i) veL "ValueError.__new__") && (List.range 25).all fun j => decide (PySem.W.kitOne K (.ref (cA K i)) (.ref (cA K j)) = some (decide (j = i)))))))))
def errB (K : PySem.W.Frag) (L : Addr) : Bool := (List.range 25).all fun i => errB1 K L i
theorem all_lt {n : Nat} {p : Nat → Bool} (h : ((List.range n).all p) = true) {i : Nat} (hi : i < n) : p i = true := List.all_eq_true.mp h i (List.mem_range.mpr hi)
theorem err_mk {K : PySem.W.Frag} {h : Heap} {mg : Str → Option Value} {L : Addr} (X : K.In h) (G : h.Ns mainGlobals mg) (e : errB K L = true) (aL : PySem.W.nsIn K mainGlobals "LineError" = some (some (.ref L)))
    (zI : PySem.W.nsIn K mainGlobals "isinstance" = some none) (zV : PySem.W.nsIn K mainGlobals "ValueError" = some none)
    (xL : PySem.W.excIn K L veL "ValueError.__new__" = true) (kL : PySem.W.keepIn K (.ref L) = true) (iL : isxB K L = true) (vL : PySem.W.kitOne K (.ref L) (.type "ValueError") = some true) : ErrTxt K mg (cA K) L := by
  have f : ∀ i, i < 25 → errB1 K L i = true := fun i hi => all_lt e hi
  have f0 : ∀ i, i < 25 → mg (errNames.getD i "") = some (.ref (cA K i)) := fun i hi => PySem.W.mg_of X G (of_decide_eq_true (Bool.and_eq_true_iff.mp (f i hi)).1)
  have f1 : ∀ i, i < 25 → isxB K (cA K i) = true := fun i hi => (Bool.and_eq_true_iff.mp (Bool.and_eq_true_iff.mp (f i hi)).2).1
  have g2 := fun i hi => (Bool.and_eq_true_iff.mp (Bool.and_eq_true_iff.mp (f i hi)).2).2
  have g3 := fun i hi => (Bool.and_eq_true_iff.mp (g2 i hi)).2
  have g4 := fun i hi => (Bool.and_eq_true_iff.mp (g3 i hi)).2
  have g5 := fun i hi => (Bool.and_eq_true_iff.mp (g4 i hi)).2
  have g6 := fun i hi => (Bool.and_eq_true_iff.mp (g5 i hi)).2
  have g7 := fun i hi => (Bool.and_eq_true_iff.mp (g6 i hi)).2
  exact {
    isi := PySem.W.mg_none_of X G zI, ve := PySem.W.mg_none_of X G zV, gL := PySem.W.mg_of X G aL, xL := xL, kL := kL, isxL := isxB_ok iL
    isx := fun i hi => isxB_ok (f1 i hi)
    kit := fun i j hi hj => of_decide_eq_true (all_lt (g7 i hi) hj)
    kitL := fun i hi => of_decide_eq_true (Bool.and_eq_true_iff.mp (g2 i hi)).1
    toL := fun i hi => of_decide_eq_true (Bool.and_eq_true_iff.mp (g3 i hi)).1
    toV := fun i hi => of_decide_eq_true (Bool.and_eq_true_iff.mp (g4 i hi)).1
    toVL := vL
    xc := fun i h0 hi => by
      rcases Bool.or_eq_true_iff.mp (Bool.and_eq_true_iff.mp (g6 i hi)).1 with z | z
      · exact absurd (of_decide_eq_true z) (by omega)
      · exact z
    kc := fun i hi => (Bool.and_eq_true_iff.mp (g5 i hi)).1
    g0 := f0 0 (by decide)
    g1 := f0 1 (by decide)
    g2 := f0 2 (by decide)
    g3 := f0 3 (by decide)
    g4 := f0 4 (by decide)
    g5 := f0 5 (by decide)
    g6 := f0 6 (by decide)
    g7 := f0 7 (by decide)
    g8 := f0 8 (by decide)
    g9 := f0 9 (by decide)
    g10 := f0 10 (by decide)
    g11 := f0 11 (by decide)
    g12 := f0 12 (by decide)
    g13 := f0 13 (by decide)
    g14 := f0 14 (by decide)
    g15 := f0 15 (by decide)
    g16 := f0 16 (by decide)
    g17 := f0 17 (by decide)
    g18 := f0 18 (by decide)
    g19 := f0 19 (by decide)
    g20 := f0 20 (by decide)
    g21 := f0 21 (by decide)
    g22 := f0 22 (by decide)
    g23 := f0 23 (by decide)
    g24 := f0 24 (by decide) }
theorem all_mk {l : PySem.W.OpenLaw} {w : World} {K : PySem.W.Frag} {h : Heap} {mg : Str → Option Value} {fa L C f1 f2 f3 f4 f5 f6 : Addr} (X : K.In h) (G : h.Ns mainGlobals mg) (hfa : mg "law" = some (.ref fa))
    {nm q : Str} {N : Addr} {bs : List Value} {sn : List Str} {sub : List Value} {ab : Bool} {col : Option Bool} {dd : Option Addr} {m0 m1 m2 m3 m5 : Option Value}
    {od1 an1 od2 an2 od3 an3 od4 an4 od5 an5 od6 an6 : Option Addr} {sl1 sl2 sl3 sl4 sl5 sl6 : Array (Option Value)} {oc1 kV1 dc1 pm1 cd1 ct1 oc2 kV2 dc2 pm2 cd2 ct2 oc3 kV3 dc3 pm3 cd3 ct3 oc4 kV4 dc4 pm4 cd4 ct4 oc5 kV5 dc5 pm5 cd5 ct5 oc6 kV6 dc6 pm6 cd6 ct6 : Value}
    (aL : PySem.W.nsIn K mainGlobals "LineError" = some (some (.ref L))) (aC : PySem.W.nsIn K mainGlobals "ParseError" = some (some (.ref C)))
    (eB : errB K L = true) (zI : PySem.W.nsIn K mainGlobals "isinstance" = some none) (zV : PySem.W.nsIn K mainGlobals "ValueError" = some none)
    (xL : PySem.W.excIn K L veL "ValueError.__new__" = true) (kL : PySem.W.keepIn K (.ref L) = true) (iL : isxB K L = true) (vL : PySem.W.kitOne K (.ref L) (.type "ValueError") = some true)
    (zR : PySem.W.nsIn K mainGlobals "range" = some none) (zA : PySem.W.nsIn K mainGlobals "any" = some none) (zN : PySem.W.nsIn K mainGlobals "len" = some none) (zT : PySem.W.nsIn K mainGlobals "int" = some none) (zS : PySem.W.nsIn K mainGlobals "list" = some none)
    (rL : PySem.W.readsIn K L (.type "type") = true) (sL : PySem.W.specialIn K (.ref L) "__getattribute__" = some (some (.builtin "type.__getattribute__"))) (cL : PySem.W.findCls K (.ref L) (.type "type") "__init__" = some (.val (.builtin "ValueError.__init__")))
    (xC : K.lookup C = some (excClassObj nm q C N bs [.ref L, .type "ValueError", .type "Exception", .type "BaseException", .type "object"] true sn sub ab col dd m0 m1 m2 m3 m5 "ValueError.__new__"))
    (sC : PySem.W.findIn K (.ref C) "__setattr__" = some (some (.builtin "object.__setattr__"))) (eC : PySem.W.subIn K (.ref C) (.type "BaseException") = some true) (tC : PySem.W.typeIn K (.ref C) = some (.type "type")) (kC : PySem.W.keepIn K (.ref C) = true) (nC : PySem.W.findIn K (.ref C) "line" = some none)
    (fC : xfB K C = true)
    (a1 : PySem.W.findIn K (.ref C) "__init__" = some (some (.ref f1))) (t1 : PySem.W.typeIn K (.ref f1) = some (.type "function")) (l1 : K.lookup f1 = some ⟨oc1, od1, .func (PySem.W.fnOf "__init__" "ParseError.__init__" (defArgs sPEi) (defBody sPEi) (defScope sPEi) .none kV1 dc1 pm1 an1 cd1 ct1), sl1⟩) (c1 : PySem.W.codeIn K cd1 "ParseError.__init__" = true) (k1 : PySem.W.keepIn K (.ref f1) = true)
    (a2 : PySem.W.nsIn K mainGlobals "_law_pen" = some (some (.ref f2))) (l2 : K.lookup f2 = some ⟨oc2, od2, .func (PySem.W.fnOf "_law_pen" "_law_pen" (defArgs sPen) (defBody sPen) (defScope sPen) .none kV2 dc2 pm2 an2 cd2 ct2), sl2⟩) (c2 : PySem.W.codeIn K cd2 "_law_pen" = true) (k2 : PySem.W.keepIn K (.ref f2) = true)
    (a3 : PySem.W.nsIn K mainGlobals "_law_next" = some (some (.ref f3))) (l3 : K.lookup f3 = some ⟨oc3, od3, .func (PySem.W.fnOf "_law_next" "_law_next" (defArgs sNext) (defBody sNext) (defScope sNext) .none kV3 dc3 pm3 an3 cd3 ct3), sl3⟩) (c3 : PySem.W.codeIn K cd3 "_law_next" = true) (k3 : PySem.W.keepIn K (.ref f3) = true)
    (a4 : PySem.W.nsIn K mainGlobals "_law_draw" = some (some (.ref f4))) (l4 : K.lookup f4 = some ⟨oc4, od4, .func (PySem.W.fnOf "_law_draw" "_law_draw" (defArgs sDraw) (defBody sDraw) (defScope sDraw) .none kV4 dc4 pm4 an4 cd4 ct4), sl4⟩) (c4 : PySem.W.codeIn K cd4 "_law_draw" = true) (k4 : PySem.W.keepIn K (.ref f4) = true)
    (a5 : PySem.W.nsIn K mainGlobals "_law_kinds" = some (some (.ref f5))) (l5 : K.lookup f5 = some ⟨oc5, od5, .func (PySem.W.fnOf "_law_kinds" "_law_kinds" (defArgs sKinds) (defBody sKinds) (defScope sKinds) .none kV5 dc5 pm5 an5 cd5 ct5), sl5⟩) (c5 : PySem.W.codeIn K cd5 "_law_kinds" = true) (k5 : PySem.W.keepIn K (.ref f5) = true)
    (a6 : PySem.W.nsIn K mainGlobals "law" = some (some (.ref f6))) (l6 : K.lookup f6 = some ⟨oc6, od6, .func (PySem.W.fnOf "law" "law" (defArgs sLaw) (defBody sLaw) (defScope sLaw) .none kV6 dc6 pm6 an6 cd6 ct6), sl6⟩) (c6 : PySem.W.codeIn K cd6 "law" = true) (k6 : PySem.W.keepIn K (.ref f6) = true) :
    ∃ fd : FuncData, (∀ (s : Shared) (v : Value), BindsTo s fd ⟨[v], []⟩ [("_law_script", v)]) ∧ ∀ base : Heap, K.In base → base.Ns mainGlobals mg → FnOk l.prog w K mg base CX0 3 fa fd ["_law_script"] (spLaw K) := by
  have e := hfa.symm.trans (PySem.W.mg_of X G a6)
  cases e
  have T := err_mk X G eB aL zI zV xL kL iL vL
  have eC0 : cA K 0 = C := by
    show adr K "ParseError" = C
    unfold adr
    rw [aC]
  have TL : LawTxt mg := ⟨PySem.W.mg_none_of X G zR, PySem.W.mg_none_of X G zA, PySem.W.mg_none_of X G zN⟩
  have TP : PenTxt mg := ⟨PySem.W.mg_none_of X G zS, PySem.W.mg_none_of X G zT, PySem.W.mg_none_of X G zN⟩
  have TE : PETxt K mg (cA K 0) L (.type "type") := by
    rw [eC0]
    exact ⟨PySem.W.mg_of X G aL, ⟨rL, sL⟩, cL, ⟨⟨nm, q, N, bs, _, sn, sub, ab, col, dd, m0, m1, m2, m3, m5, xC, by rfl⟩, sC, eC, tC, kC⟩, nC⟩
  have F1 := fun_mk (st := sPEi) l1 c1 k1
  have F2 := fun_mk (st := sPen) l2 c2 k2
  have F3 := fun_mk (st := sNext) l3 c3 k3
  have F4 := fun_mk (st := sDraw) l4 c4 k4
  have F5 := fun_mk (st := sKinds) l5 c5 k5
  have b1 := F1.binds (ps := ["self", "line"]) fun _ _ _ _ _ _ us hl => match us, hl with | [_, _], _ => rfl
  have b2 := F2.binds (ps := ["_law_script"]) fun _ _ _ _ _ _ us hl => match us, hl with | [_], _ => rfl
  have b3 := F3.binds (ps := ["_law_pen_here"]) fun _ _ _ _ _ _ us hl => match us, hl with | [_], _ => rfl
  have b4 := F4.binds (ps := ["_law_pen_here", "_law_under"]) fun _ _ _ _ _ _ us hl => match us, hl with | [_, _], _ => rfl
  have b5 := F5.binds (ps := ["_law_error"]) fun _ _ _ _ _ _ us hl => match us, hl with | [_], _ => rfl
  exact ⟨PySem.W.fnOf "law" "law" (defArgs sLaw) (defBody sLaw) (defScope sLaw) .none kV6 dc6 pm6 an6 cd6 ct6, fun s v => .of_eq rfl, fun base _ _ =>
    ok_law (fun_mk (st := sLaw) l6 c6 k6) T TL TP TE F2 (PySem.W.mg_of X G a2) b2 F3 (PySem.W.mg_of X G a3) b3 F4 (PySem.W.mg_of X G a4) b4 F5 (PySem.W.mg_of X G a5) b5 F1 (by rw [eC0]; exact a1) t1 b1 (fun s u v => .of_eq rfl) (by rw [eC0]; exact xfB_ok fC)⟩
theorem walk {l : PySem.W.OpenLaw} {q : Program} {loose : List Str} {XP : (Str → Option Value) → Heap → Prop} {YP : World → Heap → Prop} {d : DefRec} {K : Params → PySem.W.Frag} (hn : l.most = some 63) (hdf : d.params.defaults = [])
    (hY : ∀ (w : World) (h : Heap), YP w h → (K w.params).In h)
    (F : ∀ (w : World) (mg : Str → Option Value) (fa : Addr) (h : Heap), (K w.params).In h → h.Ns mainGlobals mg → mg d.name = some (.ref fa) →
      ∃ fd : FuncData, (∀ (s : Shared) (u : Value), BindsTo s fd ⟨[u], []⟩ [("_law_script", u)]) ∧ ∀ base : Heap, (K w.params).In base → base.Ns mainGlobals mg → FnOk l.prog w (K w.params) mg base CX0 3 fa fd ["_law_script"] (spLaw (K w.params))) :
    PySem.W.WalkO q loose XP YP l.row.toRowW d [] (fun f vs => PySem.call f vs) :=
  L2.walk_of (n := 63) (k := 3) (x := "_law_script") (CX := fun _ => CX0) (sp := fun w => spLaw (K w.params)) hn (by decide) hdf ⟨rfl, by decide, by decide⟩ hY F (fun _ _ a ns hl _ hS => ⟨a, ns, rfl, hS, fun _ => rfl⟩) fun _ _ _ _ _ z => z
end Stp
set_option Elab.async false
set_option linter.all false
set_option maxRecDepth 100000
open PySem PySem.W PyProof.Rows in
set_option maxRecDepth 100000 in
set_option maxHeartbeats 0 in
theorem PySem.Challenge.cw_stepsagain_k01_errors_holds : PySem.Challenge.rw_stepsagain_k01_errors.Holds := by
  w_on; o_law; k_head; (case hw => w_witness2)
  k_fill
  refine Stp.walk (l := PySem.Challenge.rw_stepsagain_k01_errors) rfl rfl (fun w h Y => PySem.W.kIn_of Y) ?F
  case F =>
    intro w mg fa h KX G hmg
    refine' Stp.all_mk KX G hmg ?aL ?aC ?eB ?zI ?zV ?xL ?kL ?iL ?vL ?zR ?zA ?zN ?zT ?zS ?rL ?sL ?cL ?xC ?sC ?eC ?tC ?kC ?nC ?fC ?a1 ?t1 ?l1 ?c1 ?k1 ?a2 ?l2 ?c2 ?k2 ?a3 ?l3 ?c3 ?k3 ?a4 ?l4 ?c4 ?k4 ?a5 ?l5 ?c5 ?k5 ?a6 ?l6 ?c6 ?k6
    (case aL => k_is); (case aC => k_is)
    (case zI => k_is); (case zV => k_is); (case kL => k_is)
    (case zR => k_is); (case zA => k_is); (case zN => k_is); (case zT => k_is); (case zS => k_is)
    (case rL => k_is); (case sL => k_is); (case cL => k_is); (case xC => k_is); (case sC => k_is); (case eC => k_is); (case tC => k_is); (case kC => k_is); (case nC => k_is)
    (case a1 => k_is); (case t1 => k_is); (case l1 => k_is); (case c1 => k_is); (case k1 => k_is)
    (case a2 => k_is); (case l2 => k_is); (case c2 => k_is); (case k2 => k_is)
    (case a3 => k_is); (case l3 => k_is); (case c3 => k_is); (case k3 => k_is)
    (case a4 => k_is); (case l4 => k_is); (case c4 => k_is); (case k4 => k_is)
    (case a5 => k_is); (case l5 => k_is); (case c5 => k_is); (case k5 => k_is)
    (case a6 => k_is); (case l6 => k_is); (case c6 => k_is); (case k6 => k_is)
    (case fC => kernel_rfl)
    (case xL => kernel_rfl)
    (case iL => kernel_rfl)
    (case vL => kernel_rfl)
    (case eB => kernel_rfl)
