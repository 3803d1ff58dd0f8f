import PyProof.Rows.All
import Wide.All
import OpenK.AllK
import Wide.FinOn
import HandS.ForMost
import HandS.ForExc
import HandS.IsInst
import KE.GoesMore
import PyProof.EnumMake
import PyProof.Draws
import PyProof.MaxThree
import HandS.Walk
import HandS.Conv
import HandS.TupAny
import HandS.TupMul
import PySem.Challenge.RW_stepsagain_k02_words_and_distances
set_option Elab.async false
set_option linter.all false
set_option maxRecDepth 100000
set_option maxHeartbeats 4000000
/-! what the laws have in common: the pen, shapes of data, heaps that grow -/
namespace Stp
open PySem L2
/-! ### the pen -/
/-- all that was tracked, but for p, is as it was -/
def But (p : Addr) (H H' : Hp) : Prop := ∀ b o, b ≠ p → H b = some o → H' b = some o
theorem But.refl (p : Addr) (H : Hp) : But p H H := fun _ _ _ h => h
theorem But.trans {p : Addr} {H H1 H2 : Hp} (a : But p H H1) (b : But p H1 H2) : But p H H2 := fun c o n h => b c o n (a c o n h)
theorem Same.but {p : Addr} {H H' : Hp} (a : Same H H') : But p H H' := fun c o _ h => a c o h
theorem But.upd {p : Addr} {H H' : Hp} {o : HO} (a : But p H H') : But p H (upd H' p o) := fun c u n h => by
  rw [upd_ne n]
  exact a c u n h
/-- a pen: its cells at c, the number of the next call, the number that remains -/
structure PenIs (H : Hp) (p c : Addr) (cs : List Int) (i : Nat) (r : Int) : Prop where
  pen : H p = some (.lst [.ref c, .int i, .int r])
  cells : H c = some (.lst (cs.map V.int))
  pos : 0 ≤ r
theorem PenIs.ne {H : Hp} {p c : Addr} {cs : List Int} {i : Nat} {r : Int} (P : PenIs H p c cs i r) : c ≠ p := by
  refine ne_of P.cells P.pen fun z => ?_
  injection z with z
  cases cs with
  | nil => cases z
  | cons a l =>
    rw [List.map_cons] at z
    injection z with z1 _
    cases z1
def PenAt (H : Hp) (p c : Addr) (n : Nat) : Prop := ∃ cs i r, PenIs H p c cs i r ∧ i ≤ n
theorem PenAt.same {H H' : Hp} {p c : Addr} {n : Nat} (P : PenAt H p c n) (s : Same H H') : PenAt H' p c n := by
  obtain ⟨cs, i, r, ⟨h1, h2, h3⟩, h4⟩ := P
  exact ⟨cs, i, r, ⟨s _ _ h1, s _ _ h2, h3⟩, h4⟩
theorem PenAt.up {H : Hp} {p c : Addr} {n m : Nat} (P : PenAt H p c n) (s : n ≤ m) : PenAt H p c m := by
  obtain ⟨cs, i, r, h1, h4⟩ := P
  exact ⟨cs, i, r, h1, Nat.le_trans h4 s⟩
theorem PenAt.atP {H : Hp} {p c : Addr} {n : Nat} (P : PenAt H p c n) : ∃ o, H p = some o := by
  obtain ⟨cs, i, r, h, _⟩ := P
  exact ⟨_, h.pen⟩
theorem PenAt.atC {H : Hp} {p c : Addr} {n : Nat} (P : PenAt H p c n) : ∃ o, H c = some o := by
  obtain ⟨cs, i, r, h, _⟩ := P
  exact ⟨_, h.cells⟩
theorem PenAt.neP {H : Hp} {p c a : Addr} {n : Nat} (P : PenAt H p c n) (ha : H a = none) : a ≠ p := by
  obtain ⟨o, h⟩ := P.atP
  exact (ne_of_none h ha).symm
theorem PenAt.neC {H : Hp} {p c a : Addr} {n : Nat} (P : PenAt H p c n) (ha : H a = none) : a ≠ c := by
  obtain ⟨o, h⟩ := P.atC
  exact (ne_of_none h ha).symm
/-- the pen stands while another thing changes -/
theorem PenAt.other {H : Hp} {p c a : Addr} {n : Nat} {o : HO} (P : PenAt H p c n) (h1 : a ≠ p) (h2 : a ≠ c) : PenAt (upd H a o) p c n := by
  obtain ⟨cs, i, r, ⟨k1, k2, k3⟩, h4⟩ := P
  exact ⟨cs, i, r, ⟨by rw [upd_ne h1.symm]; exact k1, by rw [upd_ne h2.symm]; exact k2, k3⟩, h4⟩

def spPen (K : PySem.W.Frag) : Sp := fun vs H Q _ => ∃ (a : Addr) (ns : List Int), vs = [.ref a] ∧ SqL K H a (ns.map V.int) ∧
  ∀ (H' : Hp) (p c : Addr), Same H H' → H p = none → H c = none → PenAt H' p c 0 → Q (.ref p) H'
def spNext : Sp := fun vs H Q _ => ∃ (p c : Addr) (cs : List Int) (i : Nat) (r : Int), vs = [.ref p] ∧ PenIs H p c cs i r ∧ i < 1000000000000 ∧
  ∀ (H' : Hp) (v : Int), But p H H' → PenIs H' p c cs (i + 1) r → 0 ≤ v → Q (.int v) H'
def spDraw : Sp := fun vs H Q _ => ∃ (p c : Addr) (u : Int) (n : Nat), vs = [.ref p, .int u] ∧ PenAt H p c n ∧ n < 1000000000000 ∧ 0 < u ∧ u < 1073741824 ∧
  ∀ (H' : Hp) (d : Int), But p H H' → PenAt H' p c (n + 1) → 0 ≤ d → d < u → Q (.int d) H'
structure PenTxt (mg : Str → Option Value) : Prop where
  list : mg "list" = none
  int : mg "int" = none
  len : mg "len" = none
theorem dp_ints {K : PySem.W.Frag} {H : Hp} : ∀ (cs : List Int), DpAll K H (cs.map V.int) (cs.map PyData.int)
  | [] => .nil
  | a :: l => .cons (.int a) (dp_ints l)
/-- flat data: d of depth at most n that may be laid -/
def Shp (n : Nat) (d : PyData) : Prop := d.canLay0 = true ∧ d.depth ≤ n
theorem Shp.up {n m : Nat} {d : PyData} (h : Shp n d) (l : n ≤ m) : Shp m d := ⟨h.1, Nat.le_trans h.2 l⟩
theorem shp_all {n : Nat} : ∀ {ds : List PyData}, (∀ d ∈ ds, Shp n d) → PyData.canLayAll0 ds = true ∧ PyData.depthAll ds ≤ n
  | [], _ => ⟨by simp only [PyData.canLayAll0], by simp only [PyData.depthAll]; exact Nat.zero_le _⟩
  | d :: ds, h => by
    have h1 := h d (List.mem_cons_self ..)
    have h2 := shp_all (ds := ds) fun e m => h e (List.mem_cons_of_mem _ m)
    refine ⟨?_, ?_⟩
    · simp only [PyData.canLayAll0, h1.1, h2.1, Bool.and_self]
    · simp only [PyData.depthAll]
      exact Nat.max_le.mpr ⟨h1.2, h2.2⟩
theorem Shp.list {n : Nat} {ds : List PyData} (h : ∀ d ∈ ds, Shp n d) : Shp (n + 1) (.list ds) := by
  have q := shp_all h
  refine ⟨?_, ?_⟩
  · simp only [PyData.canLay0, q.1]
  · simp only [PyData.depth]
    exact Nat.succ_le_succ q.2
theorem Shp.tuple {n : Nat} {ds : List PyData} (h : ∀ d ∈ ds, Shp n d) : Shp (n + 1) (.tuple ds) := by
  have q := shp_all h
  refine ⟨?_, ?_⟩
  · simp only [PyData.canLay0, q.1]
  · simp only [PyData.depth]
    exact Nat.succ_le_succ q.2
theorem Shp.int (i : Int) : Shp 0 (.int i) := ⟨by simp only [PyData.canLay0], by simp only [PyData.depth]; exact Nat.le_refl _⟩
theorem Shp.bool (i : Bool) : Shp 0 (.bool i) := ⟨by simp only [PyData.canLay0], by simp only [PyData.depth]; exact Nat.le_refl _⟩
theorem Shp.none : Shp 0 .none := ⟨by simp only [PyData.canLay0], by simp only [PyData.depth]; exact Nat.le_refl _⟩
theorem Shp.ok {n : Nat} {d : PyData} (h : Shp n d) (l : n ≤ 64) : SeqAt.shaped d = true := by
  unfold SeqAt.shaped
  rw [h.1, decide_eq_true (Nat.le_trans h.2 l)] <;> rfl
theorem shp_ints (cs : List Int) : Shp 1 (.list (cs.map PyData.int)) := Shp.list fun d m => by
  obtain ⟨i, _, rfl⟩ := List.mem_map.mp m
  exact Shp.int i
theorem eqv_ints_nil (cs : List Int) : PyData.eqv (.list (cs.map PyData.int)) (.list []) = cs.isEmpty := by
  cases cs <;> rfl
theorem dp_bools {K : PySem.W.Frag} {H : Hp} : ∀ (cs : List Bool), DpAll K H (cs.map V.bl) (cs.map PyData.bool)
  | [] => .nil
  | a :: l => .cons (.bl a) (dp_bools l)
theorem shp_bools (cs : List Bool) : Shp 1 (.list (cs.map PyData.bool)) := Shp.list fun d m => by
  obtain ⟨i, _, rfl⟩ := List.mem_map.mp m
  exact Shp.bool i
/-! rules that are used within a comprehension's block: the written part by name -/
def rLenK (K : PySem.W.Frag) : List V → Hp → VK → Prop := fun xs H Q => ∃ p ys, xs = [.ref p] ∧ (SqL K H p ys ∨ SqT K H p ys) ∧ Q (.int ys.length) H
theorem call_lenK {X : Cx} {K : PySem.W.Frag} (e : X.K = K) : CallR X (.builtin "len") (rLenK K) := by
  subst e
  exact call_len_seq
theorem ix_listK {X : Cx} {K : PySem.W.Frag} (e : X.K = K) : IxR X (rIxL K) := by
  subst e
  exact ix_list
theorem ix_tupK {X : Cx} {K : PySem.W.Frag} (e : X.K = K) : IxR X (rIxT K) := by
  subst e
  exact ix_tup
theorem if_t {c A B : Prop} [Decidable c] (h : c) (a : A) : if c then A else B := by
  rw [if_pos h]
  exact a
theorem if_f {c A B : Prop} [Decidable c] (h : ¬ c) (a : B) : if c then A else B := by
  rw [if_neg h]
  exact a
theorem take_more {α : Type} : ∀ {l : List α} {i : Nat} {x : α}, l[i]? = some x → l.take (i + 1) = l.take i ++ [x]
  | [], i, x, h => by simp at h
  | a :: l, 0, x, h => by
    cases h
    rfl
  | a :: l, i + 1, x, h => by
    have ih := take_more (l := l) (i := i) (x := x) h
    rw [List.take_succ_cons, List.take_succ_cons, ih]
    rfl
theorem same_new {H : Hp} {p : Addr} {o : HO} (h : H p = none) : Same H (upd H p o) := fun b u e => by
  rw [upd_ne (ne_of_none e h)]
  exact e
theorem same_mut {H H1 : Hp} {p : Addr} {o : HO} (s : Same H H1) (h : H p = none) : Same H (upd H1 p o) := fun b u e => by
  rw [upd_ne (ne_of_none e h)]
  exact s _ _ e
end Stp
set_option Elab.async false
set_option linter.all false
set_option maxRecDepth 100000
set_option maxHeartbeats 4000000
/-! things: values of which the type is known -/
namespace Stp
open PySem PyProof.Rows L2
def isIntV : V → Bool
  | .int _ => true
  | _ => false
def isBlV : V → Bool
  | .bl _ => true
  | _ => false
/-- an int from 0 below n -/
def belowV (n : Int) : V → Bool
  | .int i => decide (0 ≤ i) && decide (i < n)
  | _ => false
def tupO : Option HO → Option (List V)
  | some (.tup xs) => some xs
  | _ => none
/-- the items of a tuple -/
def tupV (H : Hp) : V → Option (List V)
  | .ref a => tupO (H a)
  | _ => none
theorem tupV_ref {H : Hp} {a : Addr} : tupV H (.ref a) = tupO (H a) := rfl
/-- a thing: flat, or a list, a tuple, a dict that is tracked -/
inductive Th (H : Hp) : V → Prop where
  | non : Th H .non
  | bl (b : Bool) : Th H (.bl b)
  | int (i : Int) : Th H (.int i)
  | str (z : Str) : Th H (.str z)
  | lst {a : Addr} {xs : List V} (h : H a = some (.lst xs)) : Th H (.ref a)
  | tup {a : Addr} {xs : List V} (h : H a = some (.tup xs)) : Th H (.ref a)
  | dK {a : Addr} {kvs : List (Key × V)} (h : H a = some (.dK kvs)) : Th H (.ref a)
theorem Th.same {H H' : Hp} {x : V} (t : Th H x) (s : Same H H') : Th H' x := by
  cases t with
  | non => exact .non
  | bl b => exact .bl b
  | int i => exact .int i
  | str z => exact .str z
  | lst h => exact .lst (s _ _ h)
  | tup h => exact .tup (s _ _ h)
  | dK h => exact .dK (s _ _ h)
theorem tupV_same {H H' : Hp} {x : V} {xs : List V} (h : tupV H x = some xs) (s : Same H H') : tupV H' x = some xs := by
  cases x with
  | ref a =>
    rw [tupV_ref] at h ⊢
    cases e : H a with
    | none => rw [e] at h; cases h
    | some o =>
      rw [s _ _ e]
      rw [e] at h
      exact h
  | _ => cases h
theorem tupV_of {H : Hp} {a : Addr} {xs : List V} (h : H a = some (.tup xs)) : tupV H (.ref a) = some xs := by
  rw [tupV_ref, h]
  rfl
theorem tupV_at {H : Hp} {x : V} {xs : List V} (h : tupV H x = some xs) : ∃ a, x = .ref a ∧ H a = some (.tup xs) := by
  cases x with
  | ref a =>
    rw [tupV_ref] at h
    cases e : H a with
    | none => rw [e] at h; cases h
    | some o =>
      rw [e] at h
      cases o with
      | tup ys => cases h; exact ⟨a, rfl, e⟩
      | _ => cases h
  | _ => cases h
theorem Th.tupV_eq {H H' : Hp} {x : V} (t : Th H x) (s : Same H H') : tupV H' x = tupV H x := by
  cases t with
  | lst h => rw [tupV_ref, tupV_ref, h, s _ _ h]
  | tup h => rw [tupV_ref, tupV_ref, h, s _ _ h]
  | dK h => rw [tupV_ref, tupV_ref, h, s _ _ h]
  | _ => rfl
section
variable {K : PySem.W.Frag} {H : Hp}
theorem Th.isInt {x : V} (t : Th H x) : ∃ ty, TyX K H x ty ∧ PySem.W.kitOne K ty (.type "int") = some (isIntV x || isBlV x) := by
  cases t with
  | non => exact ⟨_, .base .non, kit_ty (by kernel_rfl)⟩
  | bl b => exact ⟨_, .base (.bl b), kit_ty (by kernel_rfl)⟩
  | int i => exact ⟨_, .base (.int i), kit_ty (by kernel_rfl)⟩
  | str z => exact ⟨_, .base (.str z), kit_ty (by kernel_rfl)⟩
  | lst h => exact ⟨_, .base (.lst h), kit_ty (by kernel_rfl)⟩
  | tup h => exact ⟨_, .base (.tup h), kit_ty (by kernel_rfl)⟩
  | dK h => exact ⟨_, .base (.dK h), kit_ty (by kernel_rfl)⟩
theorem Th.isBool {x : V} (t : Th H x) : ∃ ty, TyX K H x ty ∧ PySem.W.kitOne K ty (.type "bool") = some (isBlV x) := by
  cases t with
  | non => exact ⟨_, .base .non, kit_ty (by kernel_rfl)⟩
  | bl b => exact ⟨_, .base (.bl b), kit_ty (by kernel_rfl)⟩
  | int i => exact ⟨_, .base (.int i), kit_ty (by kernel_rfl)⟩
  | str z => exact ⟨_, .base (.str z), kit_ty (by kernel_rfl)⟩
  | lst h => exact ⟨_, .base (.lst h), kit_ty (by kernel_rfl)⟩
  | tup h => exact ⟨_, .base (.tup h), kit_ty (by kernel_rfl)⟩
  | dK h => exact ⟨_, .base (.dK h), kit_ty (by kernel_rfl)⟩
theorem Th.isTup {x : V} (t : Th H x) : ∃ ty, TyX K H x ty ∧ PySem.W.kitOne K ty (.type "tuple") = some (tupV H x).isSome := by
  cases t with
  | non => exact ⟨_, .base .non, kit_ty (by kernel_rfl)⟩
  | bl b => exact ⟨_, .base (.bl b), kit_ty (by kernel_rfl)⟩
  | int i => exact ⟨_, .base (.int i), kit_ty (by kernel_rfl)⟩
  | str z => exact ⟨_, .base (.str z), kit_ty (by kernel_rfl)⟩
  | lst h => exact ⟨_, .base (.lst h), by rw [tupV_ref, h]; exact kit_ty (by kernel_rfl)⟩
  | tup h => exact ⟨_, .base (.tup h), by rw [tupV_ref, h]; exact kit_ty (by kernel_rfl)⟩
  | dK h => exact ⟨_, .base (.dK h), by rw [tupV_ref, h]; exact kit_ty (by kernel_rfl)⟩
end
/-- all items of a tuple are things -/
def ThT (H : Hp) (x : V) : Prop := Th H x ∧ ∀ xs, tupV H x = some xs → ∀ y ∈ xs, Th H y
def isWordB (H : Hp) (n : Int) (x : V) : Bool := match tupV H x with
  | some xs => decide (xs.length ≤ 12) && xs.all (belowV n)
  | none => false
end Stp
namespace Stp
open PySem PyProof.Rows L2
theorem call_isiK' {X : Cx} {K : PySem.W.Frag} (e : X.K = K) : CallR X (.builtin "isinstance") (rIsi K) := by
  subst e
  exact call_isi
end Stp
set_option Elab.async false
set_option linter.all false
set_option maxRecDepth 100000
set_option maxHeartbeats 4000000
namespace Stp
open PySem L2
def top (i : Nat) : Stmt := PySem.Challenge.pw_stepsagain_k02_words_and_distances.main.body.getD i (.Pass ⟨0, 0, 0, 0⟩)
abbrev sPen : Stmt := top 7
abbrev sNext : Stmt := top 8
abbrev sDraw : Stmt := top 9
section
variable {P : Program} {w : World} {K : PySem.W.Frag} {mg : Str → Option Value} {base : Heap}
theorem scP : FnScope ["_law_script"] ["_law_script"] (defScope sPen) := ⟨rfl, rfl, rfl, by decide +kernel, rfl, by decide +kernel, by decide +kernel⟩
theorem ok_pen {f : Addr} {fd : FuncData} (F : Fun K "_law_pen" "_law_pen" sPen f fd) (T : PenTxt mg) : FnOk P w K mg base CX0 1 f fd ["_law_script"] (spPen K) := by
  refine F.ok scP (fun vs H Q E h => ?_) (fun cdv A outer s H vs Q E hr h => ?_)
  · obtain ⟨a, ns, rfl, _⟩ := h
    rfl
  · obtain ⟨a, ns, rfl, hS, k⟩ := h
    refine ⟨_, pss_one (ps_ret (pe_lst (pa_cons (pe_callTy call_list_of (by rfl) T.list (by decide +kernel) (pa_cons (pe_slice sl_list (pv 0) po_none (po_some pe_int)) pa_nil)) (pa_cons pe_int (pa_cons pe_int pa_nil))))), ?_⟩
    refine ⟨_, rfl, _, rfl, _, _, rfl, hS, fun p1 n1 => ?_⟩
    refine ⟨_, _, rfl, .inl (SqL.of upd_same), fun p2 n2 => ?_⟩
    refine ⟨(by show 3 ≤ sizeLine; decide), fun p3 n3 => ?_⟩
    have d21 : p2 ≠ p1 := fun e => by rw [e, upd_same] at n2; cases n2
    have d32 : p3 ≠ p2 := fun e => by rw [e, upd_same] at n3; cases n3
    have h2 : H p2 = none := by rw [upd_ne d21] at n2; exact n2
    have h3' : upd H p1 (.lst (cutV (ns.map V.int) none (some 60))) p3 = none := by rw [upd_ne d32] at n3; exact n3
    have d31 : p3 ≠ p1 := fun e => by rw [e, upd_same] at h3'; cases h3'
    have h3 : H p3 = none := by rw [upd_ne d31] at h3'; exact h3'
    refine k _ p3 p2 (fun b o e => ?_) h3 h2 ⟨ns.take 60, 0, 0, ⟨upd_same, ?_, by decide⟩, by decide⟩
    · rw [upd_ne (ne_of_none e h3), upd_ne (ne_of_none e h2), upd_ne (ne_of_none e n1)]
      exact e
    · rw [upd_ne d32.symm, upd_same]
      congr 2
      simp only [cutV, HT.sIx_none]
      rw [show (some (60 : Int)) = some ((60 : Nat) : Int) from rfl, HT.sIx_nat]
      simp [List.map_take]
end
section
variable {P : Program} {w : World} {K : PySem.W.Frag} {mg : Str → Option Value} {base : Heap}
theorem scN : FnScope ["_law_pen_here", "_law_index", "_law_cell_here", "_law_some", "_law_more", "_law_top"] ["_law_pen_here"] (defScope sNext) := ⟨rfl, rfl, rfl, by decide +kernel, rfl, by decide +kernel, by decide +kernel⟩
theorem ok_next {f : Addr} {fd : FuncData} (F : Fun K "_law_next" "_law_next" sNext f fd) (T : PenTxt mg) : FnOk P w K mg base CX0 1 f fd ["_law_pen_here"] spNext := by
  refine F.ok scN (fun vs H Q E h => ?_) (fun cdv A outer s H vs Q E hr h => ?_)
  · obtain ⟨p, c, cs, i, r, rfl, _⟩ := h
    rfl
  · obtain ⟨p, c, cs, i, r, rfl, PI, hi, k⟩ := h
    refine ⟨_, 
      pss_cons (ps_set (i := 1) scN.nd rfl (Or.inl rfl) (pe_ix ix_list (pv 0) pe_int (fun _ _ => rfl)))
      (pss_cons (ps_asg (pe_op op_add (pv 1) pe_int) (pg_sub (pv 0) pe_int set_list))
      (pss_cons (ps_set (i := 2) scN.nd rfl (Or.inl rfl) (pe_op op_add (pe_op op_mul (pv 1) pe_int) pe_int))
      (pss_cons (ps_if (pt_cmpR (op_neD hr.units) (pe_ix ix_list (pv 0) pe_int (fun _ _ => rfl)) (pe_lst pa_nil) (nomark _))
        (pss_one (ps_set (i := 2) scN.nd rfl (Or.inl rfl) (pe_ix ix_list (pe_ix ix_list (pv 0) pe_int (fun _ _ => rfl)) (pe_op op_mod (pe_callTy call_int1 (by rfl) T.int (by decide +kernel) (pa_cons (pv 1) pa_nil)) (pe_callB call_len_seq (by rfl) T.len PySem.boot_len (pa_cons (pe_ix ix_list (pv 0) pe_int (fun _ _ => rfl)) pa_nil))) (fun _ _ => rfl)))) pss_nil)
      (pss_cons (ps_if (PW.pt (pw_and (pt_cmpR op_lt (pv 1) (pe_callB call_len_seq (by rfl) T.len PySem.boot_len (pa_cons (pe_ix ix_list (pv 0) pe_int (fun _ _ => rfl)) pa_nil)) (nomark _)) (pw_and1 (pt_cmpR op_ge (pv 2) (pe_op op_pow pe_int pe_int) (nomark _))))) (pss_one (ps_ret (pv 2))) pss_nil)
      (pss_cons (ps_set (i := 3) scN.nd rfl (Or.inl rfl) (pe_op op_mod (pe_callTy call_int1 (by rfl) T.int (by decide +kernel) (pa_cons (pe_op op_add (pe_op op_add (pe_op op_mod (pe_callTy call_int1 (by rfl) T.int (by decide +kernel) (pa_cons (pv 2) pa_nil)) pe_int) (pe_op op_mul (pv 1) pe_int)) pe_int) pa_nil)) pe_int))
      (pss_cons (ps_set (i := 4) scN.nd rfl (Or.inl rfl) (pe_op op_mod (pe_callTy call_int1 (by rfl) T.int (by decide +kernel) (pa_cons (pe_op op_add (pe_op op_add (pe_op op_mul (pv 3) (pv 3)) (pe_op op_mul (pv 1) pe_int)) pe_int) pa_nil)) pe_int))
      (pss_cons (ps_set (i := 5) scN.nd rfl (Or.inl rfl) (pe_op op_mod (pe_callTy call_int1 (by rfl) T.int (by decide +kernel) (pa_cons (pe_op op_add (pe_op op_add (pe_op op_mul (pv 4) (pv 4)) (pv 3)) (pe_op op_mul (pe_op op_mul (pv 1) (pv 1)) pe_int)) pa_nil)) pe_int))
      (pss_one (ps_ret (pe_op op_add (pe_op op_mul (pe_op op_add (pe_op op_mul (pv 5) pe_int) (pv 4)) pe_int) (pv 3))))))))))), ?_⟩
    have ncp := PI.ne
    refine ⟨_, rfl, _, _, _, _, rfl, rfl, SqL.of PI.pen, rfl, ?_⟩
    -- _law_pen_here[1] = _law_index + 1
    refine ⟨_, rfl, _, _, rfl, rfl, _, rfl, _, _, _, 1, rfl, rfl, PI.pen, rfl, ?_⟩
    generalize eH : upd H p _ = H1
    have hp1 : H1 p = some (.lst [.ref c, .int ((i + 1 : Nat) : Int), .int r]) := by
      rw [← eH, upd_same]; rfl
    have hc1 : H1 c = some (.lst (cs.map V.int)) := by rw [← eH, upd_ne ncp]; exact PI.cells
    have b1 : But p H H1 := fun b o n e => by rw [← eH, upd_ne n]; exact e
    -- cell = index * 1061 + 59
    refine ⟨_, rfl, _, _, rfl, rfl, .inr ⟨by decide, by decide⟩, _, _, rfl, rfl, ?_⟩
    -- the rest, for any cell
    have fin : ∀ (cell : Int) (H2 : Hp), But p H H2 → H2 p = some (.lst [.ref c, .int ((i + 1 : Nat) : Int), .int r]) → H2 c = some (.lst (cs.map V.int)) → True := fun _ _ _ _ _ => trivial
    -- if pen[0] != []
    refine ⟨_, rfl, _, _, _, _, rfl, rfl, SqL.of hp1, rfl, Nat.zero_le _, fun l hl => ?_⟩
    generalize eH2 : upd H1 l _ = H2
    have s12 : Same H1 H2 := fun b o e => by rw [← eH2, upd_ne (ne_of_none e hl)]; exact e
    have hl2 : H2 l = some (.lst []) := by rw [← eH2]; exact upd_same
    have hp2 := s12 _ _ hp1
    have hc2 := s12 _ _ hc1
    have b2 : But p H H2 := b1.trans (Same.but s12)
    refine ⟨_, _, .lst (SqL.of hc2) (dp_ints cs), .lst (SqL.of hl2) .nil, (shp_ints cs).ok (by decide), (Shp.list (n := 0) (fun d m => by cases m)).ok (by decide), _, rfl, ?_⟩
    rw [eqv_ints_nil]
    have hlen : ((cs.map V.int).length : Int) = (cs.length : Int) := by rw [List.length_map]
    have hm : ∀ m : Int, 0 < m → ∀ x : Int, 0 ≤ x % m ∧ x % m < m := fun m h x => ⟨Int.emod_nonneg _ (Int.ne_of_gt h), Int.emod_lt_of_pos _ h⟩
    refine ite2 (fun hne => ?a) (fun he => ?b)
    case' a =>
      have hcs : 0 < cs.length := by
        cases cs with
        | nil => simp at hne
        | cons a l => simp
      -- cell = pen[0][int(index) % len(pen[0])]
      refine ⟨_, rfl, _, _, _, _, rfl, rfl, SqL.of hp2, rfl, _, rfl, .inl ⟨_, rfl, ?_⟩⟩
      refine ⟨_, rfl, _, _, _, _, rfl, rfl, SqL.of hp2, rfl, c, _, rfl, .inl (SqL.of hc2), ?_⟩
      refine ⟨_, _, rfl, rfl, (by rw [hlen]; omega), ?_⟩
      rw [hlen]
      have hb := hm (cs.length : Int) (by omega) (i : Int)
      obtain ⟨j, hj⟩ := Int.eq_ofNat_of_zero_le hb.1
      have hjl : j < cs.length := by omega
      refine ⟨c, _, _, .int cs[j], rfl, rfl, SqL.of hc2, by rw [hj]; exact atI_nat (by rw [List.getElem?_map, List.getElem?_eq_getElem hjl]; rfl), ?_⟩
      generalize cs[j] = cell
    all_goals
      refine ⟨_, rfl, _, rfl, _, _, _, _, rfl, rfl, SqL.of hp2, rfl, c, _, rfl, .inl (SqL.of hc2), _, _, rfl, rfl, _, rfl, ?_⟩
      have fin : ∀ v : Int, 0 ≤ v → Q (.int v) H2 := fun v hv => k H2 v b2 ⟨hp2, hc2, PI.pos⟩ hv
      refine ite2 (fun h1 => ?_) (fun h1 => ?_)
      · refine ⟨_, rfl, _, _, rfl, rfl, ⟨by decide, by decide, by decide⟩, _, _, rfl, rfl, _, rfl, ?_⟩
        refine ite2 (fun h2 => ?_) (fun h2 => ?_)
        · refine ⟨_, rfl, fin _ ?_⟩
          have h3 := of_decide_eq_true h2
          rw [show (10 : Int) ^ (18 : Int).toNat = 1000000000000000000 by decide] at h3
          omega
        · refine ⟨_, rfl, .inl ⟨_, rfl, _, _, rfl, rfl, (by show (0 : Int) < 2147483587; decide), _, rfl, _, _, rfl, rfl, .inr ⟨by decide, by decide⟩, _, _, rfl, rfl, _, _, rfl, rfl, .inl ⟨_, rfl, _, _, rfl, rfl, (by show (0 : Int) < 2147483587; decide), ?_⟩⟩⟩
          refine ⟨_, rfl, _, rfl, _, _, rfl, rfl, .inl ⟨by omega, by omega⟩, _, rfl, _, _, rfl, rfl, .inr ⟨by decide, by decide⟩, _, _, rfl, rfl, _, _, rfl, rfl, .inl ⟨_, rfl, _, _, rfl, rfl, (by show (0 : Int) < 2147483563; decide), ?_⟩⟩
          refine ⟨_, rfl, _, rfl, _, _, rfl, rfl, .inl ⟨by omega, by omega⟩, _, rfl, _, _, rfl, rfl, _, rfl, _, rfl, _, _, rfl, rfl, .inl ⟨by omega, by omega⟩, _, _, rfl, rfl, .inr ⟨by decide, by decide⟩, _, _, rfl, rfl, .inl ⟨_, rfl, _, _, rfl, rfl, (by show (0 : Int) < 2147483549; decide), ?_⟩⟩
          refine ⟨_, rfl, _, _, rfl, rfl, .inr ⟨by decide, by decide⟩, _, rfl, _, _, rfl, rfl, _, _, rfl, rfl, .inr ⟨by decide, by decide⟩, _, rfl, _, _, rfl, rfl, fin _ ?_⟩
          show (0 : Int) ≤ _
          omega
      · refine ⟨_, rfl, .inl ⟨_, rfl, _, _, rfl, rfl, (by show (0 : Int) < 2147483587; decide), _, rfl, _, _, rfl, rfl, .inr ⟨by decide, by decide⟩, _, _, rfl, rfl, _, _, rfl, rfl, .inl ⟨_, rfl, _, _, rfl, rfl, (by show (0 : Int) < 2147483587; decide), ?_⟩⟩⟩
        refine ⟨_, rfl, _, rfl, _, _, rfl, rfl, .inl ⟨by omega, by omega⟩, _, rfl, _, _, rfl, rfl, .inr ⟨by decide, by decide⟩, _, _, rfl, rfl, _, _, rfl, rfl, .inl ⟨_, rfl, _, _, rfl, rfl, (by show (0 : Int) < 2147483563; decide), ?_⟩⟩
        refine ⟨_, rfl, _, rfl, _, _, rfl, rfl, .inl ⟨by omega, by omega⟩, _, rfl, _, _, rfl, rfl, _, rfl, _, rfl, _, _, rfl, rfl, .inl ⟨by omega, by omega⟩, _, _, rfl, rfl, .inr ⟨by decide, by decide⟩, _, _, rfl, rfl, .inl ⟨_, rfl, _, _, rfl, rfl, (by show (0 : Int) < 2147483549; decide), ?_⟩⟩
        refine ⟨_, rfl, _, _, rfl, rfl, .inr ⟨by decide, by decide⟩, _, rfl, _, _, rfl, rfl, _, _, rfl, rfl, .inr ⟨by decide, by decide⟩, _, rfl, _, _, rfl, rfl, fin _ ?_⟩
        show (0 : Int) ≤ _
        omega
end
section
variable {P : Program} {w : World} {K : PySem.W.Frag} {mg : Str → Option Value} {base : Heap}
theorem scD : FnScope ["_law_pen_here", "_law_under", "_law_digit"] ["_law_pen_here", "_law_under"] (defScope sDraw) := ⟨rfl, rfl, rfl, by decide +kernel, rfl, by decide +kernel, by decide +kernel⟩
theorem ok_draw {f fN : Addr} {fd fdN : FuncData} (F : Fun K "_law_draw" "_law_draw" sDraw f fd) (T : PenTxt mg) (FN : Fun K "_law_next" "_law_next" sNext fN fdN) (mN : mg "_law_next" = some (.ref fN)) (bN : Binds K fdN ["_law_pen_here"] []) : FnOk P w K mg base CX0 2 f fd ["_law_pen_here", "_law_under"] spDraw := by
  have GN : FnOk P w K mg base CX0 1 fN fdN ["_law_pen_here"] spNext := ok_next FN T
  refine F.ok scD (fun vs H Q E h => ?_) (fun cdv A outer s H vs Q E hr h => ?_)
  · obtain ⟨p, c, u, n, rfl, _⟩ := h
    rfl
  · obtain ⟨p, c, u, n, rfl, ⟨cs, i, r, PI, hin⟩, hn, hu0, hu1, k⟩ := h
    refine ⟨_,
      pss_cons (ps_if (pt_cmpR op_lt (pe_ix ix_list (pv 0) pe_int (fun _ _ => rfl)) (pv 1) (nomark _))
        (pss_one (ps_asg (pe_call GN hr rfl mN FN.kp bN .nil pass0 (pa_cons (pv 0) pa_nil)) (pg_sub (pv 0) pe_int set_list))) pss_nil)
      (pss_cons (ps_set (i := 2) scD.nd rfl (Or.inl rfl) (pe_op op_mod (pe_callTy call_int1 (by rfl) T.int (by decide +kernel) (pa_cons (pe_ix ix_list (pv 0) pe_int (fun _ _ => rfl)) pa_nil)) (pv 1)))
      (pss_cons (ps_asg (pe_op op_fdiv (pe_ix ix_list (pv 0) pe_int (fun _ _ => rfl)) (pv 1)) (pg_sub (pv 0) pe_int set_list))
      (pss_one (ps_ret (pv 2))))), ?_⟩
    refine ⟨_, rfl, _, _, _, _, rfl, rfl, SqL.of PI.pen, rfl, _, rfl, _, _, rfl, rfl, _, rfl, ?_⟩
    refine ite2 (fun h1 => ?a) (fun h1 => ?b)
    case' a =>
      refine ⟨_, rfl, p, c, cs, i, r, rfl, PI, by omega, fun H1 v b1 PI1 hv => ?_⟩
      refine ⟨_, rfl, _, _, _, 2, rfl, rfl, PI1.pen, rfl, ?_⟩
      generalize eH : upd H1 p _ = H2
      have PI2 : PenIs H2 p c cs (i + 1) v := ⟨by rw [← eH, upd_same]; rfl, by rw [← eH, upd_ne PI1.ne]; exact PI1.cells, hv⟩
      have b2 : But p H H2 := by rw [← eH]; exact b1.upd
    case' b =>
      have PI2 : PenIs H p c cs i r := PI
      have b2 : But p H H := But.refl p H
    all_goals
      refine ⟨_, rfl, _, _, _, _, rfl, rfl, SqL.of PI2.pen, rfl, .inl ⟨_, rfl, _, rfl, _, _, rfl, rfl, hu0, ?_⟩⟩
      refine ⟨_, rfl, _, _, _, _, rfl, rfl, SqL.of PI2.pen, rfl, _, rfl, _, _, rfl, rfl, ⟨hu0, hu1⟩, _, rfl, _, _, _, 2, rfl, rfl, PI2.pen, rfl, ?_⟩
      refine ⟨_, rfl, ?_⟩
      refine k _ _ b2.upd ⟨cs, _, _, ⟨upd_same, by rw [upd_ne PI2.ne]; exact PI2.cells, Int.ediv_nonneg PI2.pos (by omega)⟩, by omega⟩ (Int.emod_nonneg _ (by omega)) (Int.emod_lt_of_pos _ hu0)
end
end Stp
set_option Elab.async false
set_option linter.all false
set_option maxRecDepth 100000
set_option maxHeartbeats 4000000
/-! rules: enumerate of a tuple, min of three ints, repr of a bool -/
namespace Stp
open PySem PySem.Spec PyProof.Rows L2
open AutoSeq1 (wpAny_loadPart')
/-! ### min(a, b, c), repr(True) -/
section
variable {X : Cx}
def mn3 (a b c : Int) : Int := min a (min b c)
theorem call_min3 (hc : X.calm = true) : CallR X (.builtin "min") (fun xs H Q => ∃ a b c, xs = [.int a, .int b, .int c] ∧ Q (.int (mn3 a b c)) H) := by
  intro pins s σ H xs us Q I r h
  obtain ⟨a, b, c, rfl, q⟩ := h
  cases r with
  | cons r1 r =>
  cases r with
  | cons r2 r =>
  cases r with
  | cons r3 r =>
  cases r
  obtain ⟨t1, rfl⟩ := r1
  obtain ⟨t2, rfl⟩ := r2
  obtain ⟨t3, rfl⟩ := r3
  refine min_three_ints (I.ok.hd hc) fun h' tk k => ⟨.int (mn3 a b c), H, I.kept k, ?_, q⟩
  unfold mn3
  by_cases h1 : b < a
  · rw [if_pos h1]
    by_cases h2 : c < b
    · rw [if_pos h2, show min a (min b c) = c by omega]; exact ⟨_, rfl⟩
    · rw [if_neg h2, show min a (min b c) = b by omega]; exact ⟨_, rfl⟩
  · rw [if_neg h1]
    by_cases h2 : c < a
    · rw [if_pos h2, show min a (min b c) = c by omega]; exact ⟨_, rfl⟩
    · rw [if_neg h2, show min a (min b c) = a by omega]; exact ⟨_, rfl⟩
def bTxt (b : Bool) : Str := if b then "True" else "False"
theorem call_repr_bool : CallR X (.builtin "repr") (fun xs H Q => ∃ b, xs = [.bl b] ∧ Q (.str (bTxt b)) H) := by
  intro pins s σ H xs us Q I r h
  obtain ⟨b, rfl, q⟩ := h
  obtain ⟨u, rfl, e⟩ := vals1 r
  cases e
  exact PySem.P.repr_of_bool ⟨.str _, H, I.tok _, ⟨_, rfl⟩, q⟩
end
/-! ### enumerate(tuple) -/
theorem meets_enumT (l : Addr) (items : Array Value) (n : Nat) (dct : Option Addr) (sl : Array (Option Value)) :
    Meets (Builtin.«enumerate.__new__» ⟨[.type "enumerate", .ref l], []⟩) (fun _ R s => s.heap.get? l = some { cls := .type "tuple", dict := dct, data := .seq items n, slots := sl } ∧
      R (.ok (.ret (.ref (s.heap.push { cls := .type "tuple_iterator", data := .fields #[.ref l, .int 0 0] }).objs.size)))
        { s with heap := (s.heap.push { cls := .type "tuple_iterator", data := .fields #[.ref l, .int 0 0] }).push { cls := .type "enumerate", data := .fields #[.none, .bool false, .ref s.heap.objs.size, rawInt 0, .none, .none] } }) :=
  .of_wp fun prog w A R s h => by
    obtain ⟨hp, g, d, tk, os⟩ := s; obtain ⟨hl, h⟩ := h
    have hsub := sub_enumerate
    have hL : Heap.IsTuple (Shared.heap ⟨hp, g, d, tk, os⟩) l items := ⟨_, hl, rfl, n, rfl⟩
    wp_walk using wpAny_loadPart' hl
    refine wpAny_stack_any fun st => wpAny_pure ?_
    split
    · rename_i c _ _ _ _ _
      cases (c == Value.type "enumerate")
      · wp_walk using wpAny_loadPart' hl, wpAny_pyIter_tuple hL
        exact ⟨_, rfl, h⟩
      · wp_walk using wpAny_loadPart' hl, wpAny_pyIter_tuple hL
        exact ⟨_, rfl, h⟩
    · wp_walk using wpAny_loadPart' hl, wpAny_pyIter_tuple hL
      exact ⟨_, rfl, h⟩
section
variable {prog : Program} {w : World} {A : Around} {E : Value → Shared → Prop} {s : Shared}
theorem call_enumT {l : Addr} {items : Array Value} {Q : Value → Shared → Prop} (hL : s.heap.IsTuple l items)
    (h : ∀ h', IsEnum h' (s.heap.objs.size + 1) s.heap.objs.size 0 .none → h'.IsTupleIter s.heap.objs.size l 0 → h'.objs.size = s.heap.objs.size + 2 →
      (∀ b o, s.heap.get? b = some o → h'.get? b = some o) → Q (.ref (s.heap.objs.size + 1)) { s with heap := h' }) :
    wpAny (model prog w) A (call (.type "enumerate") [.ref l]) Q E s := by
  obtain ⟨⟨c, dct, dat, sl⟩, hl, hc, n, hd⟩ := hL
  cases hc
  cases hd
  have hsz : (s.heap.push { cls := .type "tuple_iterator", data := .fields #[.ref l, .int 0 0] }).objs.size = s.heap.objs.size + 1 := Heap.size_push ..
  refine callType_new F.called_enumerate (by decide) (F.typeCall_enumerate_1 _) (F.newCall_enumerate_1 _) (fun obj => F.args_object_init_2 obj _) F.entry_enumerate_new
    (meets_enumT l items n dct sl) ⟨hl, ?_⟩
  rw [hsz]
  have he : IsEnum ((s.heap.push { cls := .type "tuple_iterator", data := .fields #[.ref l, .int 0 0] }).push
      { cls := .type "enumerate", data := .fields #[.none, .bool false, .ref s.heap.objs.size, rawInt 0, .none, .none] }) (s.heap.objs.size + 1) s.heap.objs.size 0 .none := by
    have := Heap.get?_push_size (s.heap.push { cls := .type "tuple_iterator", data := .fields #[.ref l, .int 0 0] })
      (o := { cls := .type "enumerate", data := .fields #[.none, .bool false, .ref s.heap.objs.size, rawInt 0, .none, .none] }) rfl
    rw [hsz] at this
    exact this
  show _ ∧ _
  exact ⟨⟨_, he, rfl⟩, h _ he ⟨_, Heap.get?_push_of_some _ (Heap.get?_push_size _ rfl), rfl, rfl⟩ (by rw [Heap.size_push, hsz]) fun b o z => Heap.get?_push_of_some _ (Heap.get?_push_of_some _ z)⟩
end
theorem enum_endT {prog : Program} {w : World} {A : Around} {E : Value → Shared → Prop} {s : Shared} {e it a : Addr} {j : Nat} {i : Int} {old : Value} {items : Array Value} {Q : Option Value → Shared → Prop} (hh : A.handled = none)
    (he : IsEnum s.heap e it i old) (hit : s.heap.IsTupleIter it a j) (ha : s.heap.IsTuple a items) (hx : items[j]? = none)
    (hQ : ∀ h', Heap.ExtBut it s.heap h' → Q none { s with heap := h' }) : wpAny (model prog w) A (pyNext (.ref e)) Q E s := by
  have tE : s.TypeIs (.ref e) "enumerate" := ⟨_, he, rfl⟩
  unfold pyNext
  refine wpAny_bind (wpAny_attempt (wpAny_callSpecial?_slot (name := Str.ofString "__next__") tE F.slot_enumerate_next (wpAny_call_entry F.slot_enumerate_next tE F.entry_enumerate_next ?_ (F.args_enumerate_next_1 _))))
  show wpAny _ _ (field (.ref e) 2 >>= _) _ _ _
  refine wpAny_bind (wpAny_field he rfl (x := .ref it) rfl (wpAny_bind (wpAny_nextOf_tuple_end hh hit ha hx fun h' x eb ⟨o, ho, hc⟩ => ?_)))
  exact wpAny_bind (wpAny_isInstance (T := "StopIteration") (b := true) ⟨o, ho, hc⟩ isSubtype_stop (wpAny_pure (hQ _ eb)))
/-- the tuple at a, each item in a new pair -/
def IteT (K : PySem.W.Frag) (a : Addr) : It :=
  ⟨fun i H => ∃ (xs : List V) (x : V), SqT K H a xs ∧ xs[i]? = some x, fun i H v H' => ∃ T x, v = .ref T ∧ H T = none ∧ H' = upd H T (.tup [.int (i : Nat), x]) ∧ ∀ xs, SqT K H a xs → xs[i]? = some x, fun i H => ∃ xs : List V, SqT K H a xs ∧ xs.length ≤ i⟩
theorem turn_enumT {P : Program} {w : World} {K : PySem.W.Frag} {elts : List Expr} {kk : Nat} {tpos : Pos} (a e it : Addr) (hae : a ≠ e) (hai : a ≠ it) :
    Turn P w K (.Tuple elts kk tpos) (IteT K a) [e, it] e (fun i h => (∃ old, IsEnum h e it ((i : Nat) : Int) old) ∧ h.IsTupleIter it a i ∧ e ≠ it) where
  mem := by simp
  obj := fun i h st b hb => by
    obtain ⟨⟨old, he⟩, ⟨o, ho, hc, hd⟩, _⟩ := st
    have e' : b = e ∨ b = it := by simpa using hb
    rcases e' with z | z
    · rw [z]; exact ⟨_, he, fun v q => nomatch q⟩
    · rw [z]; exact ⟨o, ho, fun v q => by rw [hd] at q; cases q⟩
  keep := fun i h h' st k => let ⟨⟨old, he⟩, hi, hne⟩ := st; ⟨⟨old, k e (by simp) _ he⟩, hi.at fun o q => k it (by simp) o q, hne⟩
  item := by
    intro X hP hw hK hc i pins s σ H E I hf st hg
    subst hP hw hK
    obtain ⟨⟨old, he⟩, hit, hne⟩ := st
    obtain ⟨xs, x, hq, hx⟩ := hg
    obtain ⟨its, rv, p, hz⟩ := I.tuple hq
    obtain ⟨u, hu, ru⟩ := rv.get hx
    have hel : e < s.heap.objs.size := Heap.lt_size he
    have hil : it < s.heap.objs.size := by obtain ⟨_, q, _⟩ := hit; exact Heap.lt_size q
    have hlt : i < its.toArray.size := by
      have z := (List.getElem?_eq_some_iff.mp hu).1
      simpa using z
    have D := Draws.tuple (prog := X.prog) (w := X.w) (A := X.A.in1) (I.ok.hd hc) it a hai its.toArray
    refine wpAny_pyNext_enum_itemD D he ⟨hit, p⟩ hlt hne (by simp [hae.symm, hne]) fun u' h' tk hu' ho hit' hT hsz hk => ?_
    have eu : u' = u := by
      have z : its[i]? = some u' := by simpa using hu'
      rw [hu] at z
      exact (Option.some.inj z).symm
    subst eu
    refine ⟨_, rfl, wpAny_letOwnedTupleGo_enum (s := { s with heap := h', toks := tk + 1 }) ho fun h'' he' sb => ?_⟩
    have hT2 : h''.get? s.heap.objs.size = some { cls := .type "tuple", data := .seq #[.int i tk, u'] } := (sb.2 _ (Nat.ne_of_gt hel)).trans hT
    have new : ObjOk X.prog X.w (upd H s.heap.objs.size (.tup [.int (i : Nat), x])) h'' s.heap.objs.size (.tup [.int (i : Nat), x]) :=
      ⟨by show 2 ≤ sizeLine; decide, [.int i tk, u'], .cons ⟨_, rfl⟩ (.cons ru .nil), ⟨_, hT2, rfl, _, rfl⟩⟩
    have I1 : Inv X pins σ (upd H s.heap.objs.size (.tup [.int (i : Nat), x])) { s with heap := h'', toks := tk + 1 } :=
      I.turnedNew (ch := [e, it]) (fun b ob hb q => (sb.2 b (fun z => hb (by simp [z]))).trans (hk b ob (fun z => hb (by simp [z])) (fun z => hb (by simp [z])) q)) hf (Nat.le_refl _) new
    refine ⟨.ref s.heap.objs.size, _, I1, rfl, ⟨_, x, rfl, I.hok.fresh (Nat.le_refl _), rfl, fun ys hy => by rw [I.tuple_inj hy hq]; exact hx⟩, ⟨⟨u', ?_⟩, hit'.1.at fun o q => (sb.2 it (Ne.symm hne)).trans q, hne⟩, fun b hb => ?_⟩
    · have e1 : ((i + 1 : Nat) : Int) = (i : Int) + 1 := by omega
      rw [e1]; exact he'
    · have hb' : b < s.heap.objs.size := by
        have e' : b = e ∨ b = it := by simpa using hb
        rcases e' with z | z
        · rw [z]; exact hel
        · rw [z]; exact hil
      rw [upd_ne (Nat.ne_of_lt hb')]
      exact (hf b hb).1
  done := by
    intro X hP hw hK hc i pins s σ H E I hf st hg
    subst hP hw hK
    obtain ⟨⟨old, he⟩, hit, hne⟩ := st
    obtain ⟨xs, hq, hx⟩ := hg
    obtain ⟨its, rv, p, hz⟩ := I.tuple hq
    obtain ⟨f0, f1, f2, f3, f4, f5⟩ := hf it (by simp)
    have hl := rv.length
    exact enum_endT (I.ok.hd hc) he hit p (by simp; omega) fun h' eb => ⟨rfl, I.turned (t' := s.toks) (fun b o hb q => eb b o hb q) f0 f1 f3 f4 f5⟩
  self := fun A i s Q E st h => let ⟨⟨_, he⟩, _⟩ := st; wpAny_pyIter_enum he h
def iEnumT (K : PySem.W.Frag) (ta : TA) : TI := fun σ H R => ta σ H fun vs H1 => ∃ a xs, vs = [.ref a] ∧ SqT K H1 a xs ∧ R (IteT K a) H1
theorem pi_enumT {X : Cx} {e : Expr} {ta : TA} {p pos tpos : Pos} {elts : List Expr} {kk : Nat} (hg : Gl X "enumerate") (hm : X.mg "enumerate" = none) (ha : PA X [e] ta) (hs : starEach [e] X.env = [(false, eval e X.env)] := by rfl) :
    PI X (.Tuple elts kk tpos) (.Call (.Name "enumerate" p) [e] [] pos) (iEnumT X.K ta) := by
  refine ⟨fun pins s σ H R I h => ?_⟩
  refine Call_ (ld_blt I hg hm boot_enumerate (PyProof.Rows.callWith_type1 (thn (ha.run pos pins s σ H _ I h) fun us s1 ⟨vs, H1, I1, r1, q1⟩ => ?_) hs rfl))
  obtain ⟨a, xs, ex, hq, q⟩ := q1
  subst ex
  cases r1 with
  | cons r rr =>
    cases rr
    cases r
    obtain ⟨its, rv, p', hz⟩ := I1.tuple hq
    have hal : a < s1.heap.objs.size := by obtain ⟨_, z, _⟩ := p'; exact Heap.lt_size z
    refine call_enumT p' fun h' he hit hsz hk => wpAny_pyIter_enum he ?_
    have I2 : Inv X pins σ H1 { s1 with heap := h' } := I1.kept (t' := s1.toks) hk
    refine ⟨s1.heap.objs.size + 1, [s1.heap.objs.size + 1, s1.heap.objs.size], _, _, H1, rfl, I2, turn_enumT a (s1.heap.objs.size + 1) s1.heap.objs.size (Nat.ne_of_lt (Nat.lt_succ_of_lt hal)) (Nat.ne_of_lt hal), ⟨⟨.none, he⟩, hit, Nat.succ_ne_self _⟩, fun b hb => ?_, q⟩
    have e' : b = s1.heap.objs.size + 1 ∨ b = s1.heap.objs.size := by simpa using hb
    have hle : s1.heap.objs.size ≤ b := by
      rcases e' with z | z
      · rw [z]; exact Nat.le_add_right _ _
      · rw [z]; exact Nat.le_refl _
    exact I1.fpOk hle (I1.hok.fresh hle)
end Stp
namespace Stp
open PySem PySem.Spec PyProof.Rows L2
theorem walk_enumT {K : PySem.W.Frag} {a : Addr} {xs : List V} : Walk (IteT K a) xs.length (fun H => SqT K H a xs) (YPair (fun i => some (.int (i : Nat))) (fun i => xs[i]?)) := by
  refine ⟨fun i _ hi q => ⟨xs, xs[i], q, by simp [hi]⟩, fun _ q => ⟨xs, q, Nat.le_refl _⟩, fun i H v H' _ q y => ?_⟩
  obtain ⟨T, x, h1, h2, h3, h4⟩ := y
  exact ⟨T, .int (i : Nat), x, h1, h2, h3, rfl, h4 xs q⟩
end Stp
/-! the distance of two words: plain mathematics -/
namespace Stp
def dl (x y : Int) : Nat := if x = y then 0 else 1
/-- the least number of changes -/
def lv : List Int → List Int → Nat
  | [], v => v.length
  | x :: u, [] => u.length + 1
  | x :: u, y :: v => min (lv u (y :: v) + 1) (min (lv (x :: u) v + 1) (lv u v + dl x y))
termination_by u v => u.length + v.length
theorem lv_nil_left (v : List Int) : lv [] v = v.length := by unfold lv; rfl
theorem lv_nil_right : ∀ u : List Int, lv u [] = u.length
  | [] => by unfold lv; rfl
  | x :: u => by unfold lv; rfl
theorem lv_cons (x y : Int) (u v : List Int) : lv (x :: u) (y :: v) = min (lv u (y :: v) + 1) (min (lv (x :: u) v + 1) (lv u v + dl x y)) := by
  conv => lhs; unfold lv
theorem dl_comm (x y : Int) : dl x y = dl y x := by
  unfold dl
  by_cases h : x = y
  · rw [if_pos h, if_pos h.symm]
  · rw [if_neg h, if_neg (fun e => h e.symm)]
theorem dl_le (x y : Int) : dl x y ≤ 1 := by
  unfold dl
  by_cases h : x = y
  · rw [if_pos h]; omega
  · rw [if_neg h]; omega
theorem dl_tri (x y z : Int) : dl x z ≤ dl x y + dl y z := by
  unfold dl
  by_cases h : x = y
  · subst h; rw [if_pos rfl]; omega
  · rw [if_neg h]
    by_cases h2 : x = z
    · rw [if_pos h2]; omega
    · rw [if_neg h2]; omega
theorem lv_comm : ∀ (u v : List Int), lv u v = lv v u
  | [], v => by rw [lv_nil_left, lv_nil_right]
  | x :: u, [] => by rw [lv_nil_left, lv_nil_right]
  | x :: u, y :: v => by
    have h1 := lv_comm u (y :: v)
    have h2 := lv_comm (x :: u) v
    have h3 := lv_comm u v
    rw [lv_cons, lv_cons, h1, h2, h3, dl_comm x y]
    omega
termination_by u v => u.length + v.length
theorem lv_zero : ∀ (u v : List Int), lv u v = 0 ↔ u = v
  | [], v => by
    rw [lv_nil_left]
    constructor
    · intro h; exact (List.length_eq_zero_iff.mp h).symm
    · intro h; rw [← h]; rfl
  | x :: u, [] => by
    rw [lv_nil_right]
    constructor
    · intro h; cases h
    · intro h; cases h
  | x :: u, y :: v => by
    have ih := lv_zero u v
    rw [lv_cons]
    constructor
    · intro h
      have h1 : lv u v + dl x y = 0 := by omega
      have h2 : u = v := ih.mp (by omega)
      have h3 : dl x y = 0 := by omega
      have h4 : x = y := by
        by_cases e : x = y
        · exact e
        · unfold dl at h3; rw [if_neg e] at h3; cases h3
      rw [h2, h4]
    · intro h
      injection h with e1 e2
      have := ih.mpr e2
      have d0 : dl x y = 0 := by unfold dl; rw [if_pos e1]
      omega
theorem lv_grow_r : ∀ (u : List Int) (y : Int) (v : List Int), lv u (y :: v) ≤ lv u v + 1
  | [], y, v => by rw [lv_nil_left, lv_nil_left]; simp
  | x :: u, y, v => by rw [lv_cons]; omega
theorem lv_grow_l (x : Int) (u v : List Int) : lv (x :: u) v ≤ lv u v + 1 := by
  rw [lv_comm, lv_comm u v]
  exact lv_grow_r v x u
theorem lv_drop_l (x : Int) (u : List Int) : ∀ v : List Int, lv u v ≤ lv (x :: u) v + 1
  | [] => by rw [lv_nil_right, lv_nil_right, List.length_cons]; omega
  | y :: v => by
    have ih := lv_drop_l x u v
    have g := lv_grow_r u y v
    have d := dl_le x y
    rw [lv_cons]
    omega
theorem lv_le_add : ∀ u v : List Int, lv u v ≤ u.length + v.length
  | [], v => by rw [lv_nil_left]; simp
  | x :: u, v => by
    have ih := lv_le_add u v
    have g := lv_grow_l x u v
    simp only [List.length_cons]
    omega
theorem lv_len : ∀ u v : List Int, v.length ≤ u.length + lv u v
  | [], v => by rw [lv_nil_left]; simp
  | x :: u, v => by
    have ih := lv_len u v
    have g := lv_drop_l x u v
    simp only [List.length_cons]
    omega
theorem lv_tri : ∀ (u v w : List Int), lv u w ≤ lv u v + lv v w
  | [], v, w => by
    have := lv_len v w
    rw [lv_nil_left, lv_nil_left]
    omega
  | x :: u, [], w => by
    have := lv_le_add (x :: u) w
    rw [lv_nil_right, lv_nil_left]
    omega
  | x :: u, y :: v, [] => by
    have h := lv_len (y :: v) (x :: u)
    rw [lv_comm (y :: v) (x :: u)] at h
    rw [lv_nil_right, lv_nil_right]
    omega
  | x :: u, y :: v, z :: w => by
    have t1 := lv_tri u (y :: v) (z :: w)
    have t2 := lv_tri (x :: u) v (z :: w)
    have t3 := lv_tri (x :: u) (y :: v) w
    have t4 := lv_tri u v w
    have g1 := lv_grow_l x u (z :: w)
    have g2 := lv_drop_l y v (z :: w)
    have g3 := lv_grow_r (x :: u) z w
    have g4 := lv_grow_l x u v
    have d := dl_tri x y z
    have e1 := lv_cons x y u v
    have e2 := lv_cons y z v w
    have e3 := lv_cons x z u w
    omega
termination_by u v w => u.length + v.length + w.length
/-- by the words' beginnings -/
def dp (u v : List Int) : Int := (lv u.reverse v.reverse : Nat)
theorem dp_nil_left (v : List Int) : dp [] v = v.length := by unfold dp; rw [List.reverse_nil, lv_nil_left, List.length_reverse]
theorem dp_nil_right (u : List Int) : dp u [] = u.length := by unfold dp; rw [List.reverse_nil, lv_nil_right, List.length_reverse]
theorem dp_snoc (u v : List Int) (x y : Int) : dp (u ++ [x]) (v ++ [y]) = min (dp u (v ++ [y]) + 1) (min (dp (u ++ [x]) v + 1) (dp u v + (if x = y then 0 else 1))) := by
  unfold dp
  have e : ∀ (l : List Int) (a : Int), (l ++ [a]).reverse = a :: l.reverse := fun l a => by simp
  rw [e, e, lv_cons]
  unfold dl
  by_cases h : x = y
  · rw [if_pos h, if_pos h]; omega
  · rw [if_neg h, if_neg h]; omega
theorem dp_nonneg (u v : List Int) : 0 ≤ dp u v := by unfold dp; omega
theorem dp_le (u v : List Int) : dp u v ≤ u.length + v.length := by
  have := lv_le_add u.reverse v.reverse
  rw [List.length_reverse, List.length_reverse] at this
  unfold dp
  omega
theorem dp_comm (u v : List Int) : dp u v = dp v u := by unfold dp; rw [lv_comm]
theorem dp_zero (u v : List Int) : dp u v = 0 ↔ u = v := by
  unfold dp
  constructor
  · intro h
    have h1 : lv u.reverse v.reverse = 0 := by omega
    exact List.reverse_inj.mp ((lv_zero _ _).mp h1)
  · intro h
    rw [h, (lv_zero _ _).mpr rfl]
    rfl
theorem dp_tri (u v w : List Int) : dp u w ≤ dp u v + dp v w := by
  have := lv_tri u.reverse v.reverse w.reverse
  unfold dp
  omega
end Stp
namespace Stp
/-- a table that keeps the rule is the table of distances -/
theorem dp_tab {u v : List Int} {f : Nat → Nat → Int} (h0 : ∀ j, j < v.length + 1 → f 0 j = j) (h1 : ∀ k, k < u.length + 1 → f k 0 = k)
    (hs : ∀ k, k < u.length → ∀ j, j < v.length → f (k + 1) (j + 1) = min (f k (j + 1) + 1) (min (f (k + 1) j + 1) (f k j + if u.getD k 0 = v.getD j 0 then 0 else 1))) :
    ∀ k, k ≤ u.length → ∀ j, j ≤ v.length → f k j = dp (u.take k) (v.take j) := by
  have tk : ∀ {l : List Int} {i : Nat}, i < l.length → l.take (i + 1) = l.take i ++ [l.getD i 0] := fun {l i} h => by
    rw [List.take_succ, List.getD_eq_getElem?_getD, List.getElem?_eq_getElem h]
    rfl
  intro k
  induction k with
  | zero =>
    intro _ j hj
    rw [List.take_zero, dp_nil_left, List.length_take, Nat.min_eq_left hj, h0 j (by omega)]
  | succ k ih =>
    intro hk j
    induction j with
    | zero =>
      intro _
      rw [List.take_zero, dp_nil_right, List.length_take, Nat.min_eq_left hk, h1 (k + 1) (by omega)]
    | succ j jh =>
      intro hj
      rw [hs k (by omega) j (by omega), ih (by omega) (j + 1) hj, ih (by omega) j (by omega), jh (by omega), tk (show k < u.length by omega), tk (show j < v.length by omega), dp_snoc]
def mkRow (x : Int) : List Int → List Int → Int → List Int
  | y :: v, a :: b :: r, left => (min (b + 1) (min (left + 1) (a + if x = y then 0 else 1))) :: mkRow x v (b :: r) (min (b + 1) (min (left + 1) (a + if x = y then 0 else 1)))
  | _, _, _ => []
def mkTab (v : List Int) : List Int → Int → List Int → List (List Int)
  | [], _, row => [row]
  | x :: u, i, row => row :: mkTab v u (i + 1) ((i + 1) :: mkRow x v row (i + 1))
def tabF (u v : List Int) : Nat → Nat → Int := fun k j => ((mkTab v u 0 ((List.range (v.length + 1)).map fun (j : Nat) => (j : Int))).getD k []).getD j 0
def tabB (u v : List Int) : Bool := ((List.range (v.length + 1)).all fun j => decide (tabF u v 0 j = j)) && (((List.range (u.length + 1)).all fun k => decide (tabF u v k 0 = k)) &&
  (List.range u.length).all fun k => (List.range v.length).all fun j => decide (tabF u v (k + 1) (j + 1) = min (tabF u v k (j + 1) + 1) (min (tabF u v (k + 1) j + 1) (tabF u v k j + if u.getD k 0 = v.getD j 0 then 0 else 1))))
theorem dp_by {u v : List Int} {d : Int} (h : tabB u v = true) (e : tabF u v u.length v.length = d) : dp u v = d := by
  obtain ⟨a, h⟩ := Bool.and_eq_true_iff.mp h
  obtain ⟨b, c⟩ := Bool.and_eq_true_iff.mp h
  have q := dp_tab (u := u) (v := v) (f := tabF u v) (fun j hj => of_decide_eq_true (List.all_eq_true.mp a j (List.mem_range.mpr hj))) (fun k hk => of_decide_eq_true (List.all_eq_true.mp b k (List.mem_range.mpr hk)))
    (fun k hk j hj => of_decide_eq_true (List.all_eq_true.mp (List.all_eq_true.mp c k (List.mem_range.mpr hk)) j (List.mem_range.mpr hj))) u.length (Nat.le_refl _) v.length (Nat.le_refl _)
  rw [List.take_length, List.take_length] at q
  rw [← q, e]
theorem dp_law1 : dp [-1, 100000000000000000000] [100000000000000000000, -1] = 2 := dp_by (by decide +kernel) (by decide +kernel)
theorem dp_law2 : dp [-7, 99] [99] = 1 := dp_by (by decide +kernel) (by decide +kernel)
theorem dp_law3 : dp ([1, 1, 1, 1] ++ [0, 2, 0, 3, 0, 4, 0, 5]) ([0, 2, 0, 3, 0, 4, 0, 5] ++ [1, 1, 1, 1]) = 8 := dp_by (by decide +kernel) (by decide +kernel)
theorem dp_law4 : dp [] [] = 0 := dp_by (by decide +kernel) (by decide +kernel)
theorem dp_law5 : dp (List.replicate 12 1) (List.replicate 12 2) = 12 := dp_by (by decide +kernel) (by decide +kernel)
end Stp
set_option Elab.async false
set_option linter.all false
set_option maxRecDepth 100000
set_option maxHeartbeats 4000000
namespace Stp
open PySem PyProof.Rows L2
abbrev sIsInteger : Stmt := top 2
abbrev sIsBelow : Stmt := top 3
abbrev sIsWord : Stmt := top 4
def spIsInteger : Sp := fun vs H Q _ => ∃ x : V, vs = [x] ∧ Th H x ∧ Q (.bl (isIntV x)) H
def spIsBelow : Sp := fun vs H Q _ => ∃ (x : V) (n : Int), vs = [x, .int n] ∧ Th H x ∧ Q (.bl (belowV n x)) H
def spIsWord : Sp := fun vs H Q _ => ∃ (x : V) (n : Int), vs = [x, .int n] ∧ ThT H x ∧ ∀ H', Same H H' → Q (.bl (isWordB H n x)) H'
structure WordTxt (mg : Str → Option Value) : Prop where
  isi : mg "isinstance" = none
  int : mg "int" = none
  bool : mg "bool" = none
  tuple : mg "tuple" = none
  len : mg "len" = none
  all : mg "all" = none
  maxw : ∃ t, mg "MAX_WORD" = some (.int 12 t)
theorem boot_bool : bootBuiltins "bool" = some (.type "bool") := by decide +kernel
theorem boot_tuple : bootBuiltins "tuple" = some (.type "tuple") := by decide +kernel
theorem boot_isi : bootBuiltins "isinstance" = some (.builtin "isinstance") := by decide +kernel
section
variable {P : Program} {w : World} {K : PySem.W.Frag} {mg : Str → Option Value} {base : Heap}
theorem scIsInteger : FnScope ["thing"] ["thing"] (defScope sIsInteger) := ⟨rfl, rfl, rfl, by decide +kernel, rfl, by decide +kernel, by decide +kernel⟩
theorem ok_is_integer {f : Addr} {fd : FuncData} (F : Fun K "is_integer" "is_integer" sIsInteger f fd) (T : WordTxt mg) : FnOk P w K mg base CX0 1 f fd ["thing"] spIsInteger := by
  refine F.ok scIsInteger (fun vs H Q E h => ?_) (fun cdv A outer s H vs Q E hr h => ?_)
  · obtain ⟨x, rfl, _⟩ := h
    rfl
  · obtain ⟨x, rfl, th, k⟩ := h
    refine ⟨_, pss_one (ps_ret (pe_and (pe_callB call_isi (by rfl) T.isi boot_isi (pa_cons (pv 0) (pa_cons (pe_bltn (v := .ty "int") (by rfl) T.int boot_int rfl) pa_nil)))
      (pe_one (pe_not (pe_callB call_isi (by rfl) T.isi boot_isi (pa_cons (pv 0) (pa_cons (pe_bltn (v := .ty "bool") (by rfl) T.bool boot_bool rfl) pa_nil))))))), ?_⟩
    obtain ⟨t1, y1, k1⟩ := th.isInt (K := K)
    obtain ⟨t2, y2, k2⟩ := th.isBool (K := K)
    refine ⟨_, rfl, _, _, _, _, _, rfl, .ty _, y1, k1, _, rfl, ?_⟩
    refine ite2 (fun h => ?_) (fun h => ?_)
    · refine ⟨_, rfl, _, _, _, _, _, rfl, .ty _, y2, k2, _, rfl, ?_⟩
      have e : (!isBlV x) = isIntV x := by
        cases x <;> first | rfl | (exfalso; exact Bool.false_ne_true h)
      show Q (.bl (!isBlV x)) H
      rw [e]
      exact k
    · have e : isIntV x = false := by
        cases x <;> first | rfl | exact absurd rfl h
      rw [e] at k
      exact k
theorem scIsBelow : FnScope ["thing", "count"] ["thing", "count"] (defScope sIsBelow) := ⟨rfl, rfl, rfl, by decide +kernel, rfl, by decide +kernel, by decide +kernel⟩
theorem ok_is_below {f fI : Addr} {fd fdI : FuncData} (F : Fun K "is_below" "is_below" sIsBelow f fd) (T : WordTxt mg) (FI : Fun K "is_integer" "is_integer" sIsInteger fI fdI) (gI : mg "is_integer" = some (.ref fI)) (bI : Binds K fdI ["thing"] []) : FnOk P w K mg base CX0 2 f fd ["thing", "count"] spIsBelow := by
  have GI : FnOk P w K mg base CX0 1 fI fdI ["thing"] spIsInteger := ok_is_integer FI T
  refine F.ok scIsBelow (fun vs H Q E h => ?_) (fun cdv A outer s H vs Q E hr h => ?_)
  · obtain ⟨x, n, rfl, _⟩ := h
    rfl
  · obtain ⟨x, n, rfl, th, k⟩ := h
    refine ⟨_, pss_one (ps_ret (pe_and (pe_call GI hr rfl gI FI.kp bI .nil pass0 (pa_cons (pv 0) pa_nil)) (pe_one (pe_chain op_le op_lt pe_int (pv 0) (pv 1))))), ?_⟩
    refine ⟨_, rfl, x, rfl, th, _, rfl, ?_⟩
    refine ite2 (fun h => ?_) (fun h => ?_)
    · cases x with
      | int i =>
        refine ⟨_, rfl, _, _, rfl, rfl, _, rfl, ?_⟩
        have k' : Q (.bl (decide (0 ≤ i) && decide (i < n))) H := k
        refine ite2 (fun h => ?_) (fun h => ?_)
        · refine ⟨_, rfl, _, _, rfl, rfl, ?_⟩
          rw [h, Bool.true_and] at k'
          exact k'
        · rw [Bool.eq_false_iff.mpr h, Bool.false_and] at k'
          exact k'
      | _ => cases h
    · have e : belowV n x = false := by
        cases x <;> first | rfl | exact absurd rfl h
      rw [e] at k
      exact k
theorem scIsWord : FnScope ["thing", "signs", "sign"] ["thing", "signs"] (defScope sIsWord) := ⟨rfl, rfl, rfl, by decide +kernel, rfl, by decide +kernel, by decide +kernel⟩
theorem ok_is_word {f fI fB : Addr} {fd fdI fdB : FuncData} (F : Fun K "is_word" "is_word" sIsWord f fd) (T : WordTxt mg) (FI : Fun K "is_integer" "is_integer" sIsInteger fI fdI) (gI : mg "is_integer" = some (.ref fI)) (bI : Binds K fdI ["thing"] [])
    (FB : Fun K "is_below" "is_below" sIsBelow fB fdB) (gB : mg "is_below" = some (.ref fB)) (bB : Binds K fdB ["thing", "count"] []) : FnOk P w K mg base CX0 3 f fd ["thing", "signs"] spIsWord := by
  have GB : FnOk P w K mg base CX0 2 fB fdB ["thing", "count"] spIsBelow := ok_is_below FB T FI gI bI
  refine F.ok scIsWord (fun vs H Q E h => ?_) (fun cdv A outer s H vs Q E hr h => ?_)
  · obtain ⟨x, n, rfl, _⟩ := h
    rfl
  · obtain ⟨x, n, rfl, ⟨th, ti⟩, k⟩ := h
    obtain ⟨tm, hm⟩ := T.maxw
    refine ⟨_, pss_one (ps_ret (pe_and (pe_callB call_isi (by rfl) T.isi boot_isi (pa_cons (pv 0) (pa_cons (pe_bltn (v := .ty "tuple") (by rfl) T.tuple boot_tuple rfl) pa_nil)))
      (pe_and (pe_cmpR op_le (pe_callB call_len_seq (by rfl) T.len PySem.boot_len (pa_cons (pv 0) pa_nil)) (pe_glob (v := .int 12) rfl hm ⟨_, rfl⟩) (nomark _))
      (pe_one (pe_callB (cr_all rfl) (by rfl) T.all (by decide +kernel) (pa_cons (pe_lc (own := [("sign", 2)]) (g := gName 2) (tt := tYes) rfl scIsWord.nd (pi_tup (pv 0)) (blkOk_by (N := ["thing", "signs", "sign"]) (sc := defScope sIsWord) (by decide +kernel)) (fun _ _ _ _ _ => pg_name (i := 2) scIsWord.nd rfl (Or.inl rfl)) (fun _ _ _ _ _ => pts_nil)
        (fun _ _ _ _ _ => pe_call GB hr rfl gB FB.kp bB .nil pass0 (pa_cons (pv 2) (pa_cons (pv 1) pa_nil)))) pa_nil)))))), ?_⟩
    obtain ⟨t1, y1, k1⟩ := th.isTup (K := K)
    refine ⟨_, rfl, _, _, _, _, _, rfl, .ty _, y1, k1, _, rfl, ?_⟩
    cases et : tupV H x with
    | none =>
      have e : isWordB H n x = false := by unfold isWordB; rw [et]
      rw [e] at k
      exact k H (Same.refl H)
    | some xs =>
      obtain ⟨a, rfl, ha⟩ := tupV_at et
      have e : isWordB H n (.ref a) = (decide (xs.length ≤ 12) && xs.all (belowV n)) := by unfold isWordB; rw [et]
      rw [e] at k
      refine ⟨_, rfl, a, xs, rfl, .inr (SqT.of ha), _, _, rfl, rfl, _, rfl, ?_⟩
      have ed : decide ((xs.length : Int) ≤ 12) = decide (xs.length ≤ 12) := by
        by_cases h : xs.length ≤ 12
        · rw [decide_eq_true h, decide_eq_true (by omega)]
        · rw [decide_eq_false h, decide_eq_false (by omega)]
      rw [ed]
      refine ite2 (fun h => ?_) (fun h => ?_)
      · rw [h, Bool.true_and] at k
        have hl : xs.length ≤ 12 := of_decide_eq_true h
        refine ⟨_, rfl, a, rfl, ⟨_, SqT.of ha⟩, fun D nD => lc_tup (K := K) (a := a) (xs := xs) (fun m Hm => Same H Hm ∧ Hm D = some (.lst (((xs.take m).map (belowV n)).map V.bl))) ⟨same_new nD, upd_same⟩ (fun i H' _ p => SqT.of (p.1 _ _ ha)) ?_ ?_⟩
        · rintro i y Hm hi ⟨Sm, hD⟩
          have hy : y ∈ xs := List.mem_of_getElem? hi
          refine ⟨rfl, ?_⟩
          refine ⟨_, rfl, _, rfl, y, n, rfl, (ti _ et y hy).same Sm, _, hD, ?_, same_mut Sm nD, ?_⟩
          · rw [List.length_map, List.length_map, List.length_take]
            exact Nat.lt_of_le_of_lt (Nat.le_trans (Nat.min_le_right _ _) hl) (by decide)
          · rw [upd_same, take_more hi, List.map_append, List.map_append]
            rfl
        · rintro Hm ⟨Sm, hD⟩
          rw [List.take_length] at hD
          refine ⟨D, _, rfl, SqL.of hD, ?_⟩
          have ea : (xs.map (belowV n)).all id = xs.all (belowV n) := by rw [List.all_map]; rfl
          rw [ea]
          exact k Hm Sm
      · rw [Bool.eq_false_iff.mpr h, Bool.false_and] at k
        exact k H (Same.refl H)
end
end Stp
set_option Elab.async false
set_option linter.all false
set_option maxRecDepth 100000
set_option maxHeartbeats 4000000
/-! a table: a list of lists of ints of its own -/
namespace Stp
open PySem L2
def mrow (f : Nat → Nat → Int) (m k : Nat) : List V := (List.range m).map fun j => V.int (f k j)
theorem mrow_len (f : Nat → Nat → Int) (m k : Nat) : (mrow f m k).length = m := by
  unfold mrow
  rw [List.length_map, List.length_range]
theorem mrow_at (f : Nat → Nat → Int) {m k j : Nat} (h : j < m) : (mrow f m k)[j]? = some (.int (f k j)) := by
  unfold mrow
  rw [List.getElem?_map, List.getElem?_range h]
  rfl
/-- behind the heap H0 a table of the numbers f stands at F, its rows at as -/
structure Mat (H0 H : Hp) (F : Addr) (as : List Addr) (f : Nat → Nat → Int) (n m : Nat) : Prop where
  same : Same H0 H
  tab : H F = some (.lst (as.map V.ref))
  newF : H0 F = none
  news : ∀ a ∈ as, H0 a = none
  apart : as.Nodup
  len : as.length = n
  rows : ∀ k a, as[k]? = some a → H a = some (.lst (mrow f m k))
  notF : F ∉ as
theorem Mat.ext {H0 H H' : Hp} {F : Addr} {as : List Addr} {f : Nat → Nat → Int} {n m : Nat} (M : Mat H0 H F as f n m) (s : Same H H') : Mat H0 H' F as f n m :=
  ⟨M.same.trans s, s _ _ M.tab, M.newF, M.news, M.apart, M.len, fun k a e => s _ _ (M.rows k a e), M.notF⟩
theorem Mat.at {H0 H : Hp} {F : Addr} {as : List Addr} {f : Nat → Nat → Int} {n m : Nat} (M : Mat H0 H F as f n m) {k : Nat} (h : k < n) : ∃ a, as[k]? = some a ∧ (as.map V.ref)[k]? = some (.ref a) := by
  have hk : k < as.length := by rw [M.len]; exact h
  refine ⟨as[k], List.getElem?_eq_getElem hk, ?_⟩
  rw [List.getElem?_map, List.getElem?_eq_getElem hk]
  rfl
def fset (f : Nat → Nat → Int) (k j : Nat) (v : Int) : Nat → Nat → Int := fun k' j' => if k' = k ∧ j' = j then v else f k' j'
theorem mrow_set (f : Nat → Nat → Int) {m k j : Nat} (v : Int) : (mrow f m k).set j (.int v) = mrow (fset f k j v) m k := by
  refine List.ext_getElem? fun i => ?_
  by_cases hi : i < m
  · rw [mrow_at _ hi, List.getElem?_set]
    by_cases hij : j = i
    · subst hij
      rw [if_pos rfl, if_pos (by rw [mrow_len]; exact hi)]
      unfold fset
      rw [if_pos ⟨rfl, rfl⟩]
    · rw [if_neg hij, mrow_at _ hi]
      unfold fset
      rw [if_neg (fun z => hij z.2.symm)]
  · rw [List.getElem?_eq_none (by rw [List.length_set, mrow_len]; omega), List.getElem?_eq_none (by rw [mrow_len]; omega)]
theorem mrow_other (f : Nat → Nat → Int) {m k k' j : Nat} (v : Int) (h : k' ≠ k) : mrow (fset f k j v) m k' = mrow f m k' := by
  unfold mrow
  refine List.map_congr_left fun i _ => ?_
  unfold fset
  rw [if_neg (fun z => h z.1)]
theorem Mat.set {H0 H : Hp} {F a : Addr} {as : List Addr} {f : Nat → Nat → Int} {n m k j : Nat} {v : Int} (M : Mat H0 H F as f n m) (ha : as[k]? = some a) : Mat H0 (upd H a (.lst ((mrow f m k).set j (.int v)))) F as (fset f k j v) n m := by
  have ma : a ∈ as := List.mem_of_getElem? ha
  refine ⟨same_mut M.same (M.news a ma), ?_, M.newF, M.news, M.apart, M.len, fun k' b e => ?_, M.notF⟩
  · rw [upd_ne (fun z => M.notF (by rw [z]; exact ma))]
    exact M.tab
  · by_cases hk : k' = k
    · subst hk
      rw [ha] at e
      cases e
      rw [upd_same, mrow_set]
    · have nb : b ≠ a := fun z => hk (by
        subst z
        exact (List.getElem?_inj (List.getElem?_eq_some_iff.mp e).1 M.apart).mp (e.trans ha.symm))
      rw [upd_ne nb, M.rows k' b e, mrow_other f v hk]
/-- a further row -/
theorem Mat.push {H0 H H1 : Hp} {F a : Addr} {as : List Addr} {f : Nat → Nat → Int} {n m : Nat} (M : Mat H0 H F as f n m) (s : Same H H1) (na : H a = none) (ha : H1 a = some (.lst (mrow f m n))) : Mat H0 (upd H1 F (.lst (as.map V.ref ++ [.ref a]))) F (as ++ [a]) f (n + 1) m := by
  have nF : a ≠ F := fun z => by rw [z, M.tab] at na; cases na
  have nas : a ∉ as := fun z => by
    obtain ⟨k, hk⟩ := List.getElem?_of_mem z
    rw [M.rows k a hk] at na
    cases na
  refine ⟨same_mut (M.same.trans s) M.newF, ?_, M.newF, fun b hb => ?_, ?_, ?_, fun k b e => ?_, ?_⟩
  · rw [upd_same, List.map_append]
    rfl
  · rcases List.mem_append.mp hb with h | h
    · exact M.news b h
    · rw [List.mem_singleton.mp h]
      exact M.same.free na
  · rw [List.nodup_append]
    refine ⟨M.apart, by simp, fun x hx y hy => ?_⟩
    rw [List.mem_singleton.mp hy]
    exact fun z => nas (by rw [← z]; exact hx)
  · rw [List.length_append, M.len]
    rfl
  · by_cases hk : k < as.length
    · rw [List.getElem?_append_left hk] at e
      have mb : b ∈ as := List.mem_of_getElem? e
      rw [upd_ne (fun z => M.notF (by rw [← z]; exact mb))]
      exact s _ _ (M.rows k b e)
    · rw [List.getElem?_append_right (Nat.le_of_not_lt hk)] at e
      have hl := (List.getElem?_eq_some_iff.mp e).1
      rw [List.length_singleton] at hl
      have ek : k = n := by rw [M.len] at hk hl; omega
      subst ek
      rw [M.len, Nat.sub_self] at e
      cases e
      rw [upd_ne nF]
      exact ha
  · intro z
    rcases List.mem_append.mp z with h | h
    · exact M.notF h
    · exact nF (List.mem_singleton.mp h).symm
end Stp
set_option Elab.async false
set_option linter.all false
set_option maxRecDepth 100000
set_option maxHeartbeats 4000000
namespace Stp
open PySem PyProof.Rows L2
abbrev sDistance : Stmt := top 5
/-- a row: from a word's beginning u to each beginning of v -/
def rowOf (u v : List Int) (m : Nat) : List Int := (List.range m).map fun j => dp u (v.take j)
theorem rowOf_succ (u v : List Int) (m : Nat) : rowOf u v (m + 1) = rowOf u v m ++ [dp u (v.take m)] := by
  unfold rowOf
  rw [List.range_succ, List.map_append]
  rfl
theorem rowOf_len (u v : List Int) (m : Nat) : (rowOf u v m).length = m := by
  unfold rowOf
  rw [List.length_map, List.length_range]
theorem rowOf_at (u v : List Int) {m j : Nat} (h : j < m) : ((rowOf u v m).map V.int)[j]? = some (.int (dp u (v.take j))) := by
  unfold rowOf
  rw [List.getElem?_map, List.getElem?_map, List.getElem?_range h]
  rfl
theorem row_first (v : List Int) : rgV 0 ((v.length : Int) + 1) = (rowOf [] v (v.length + 1)).map V.int := by
  unfold rgV rowOf
  rw [List.map_map, show ((v.length : Int) + 1 - 0).toNat = v.length + 1 by omega]
  refine List.map_congr_left fun j hj => ?_
  have hj' := List.mem_range.mp hj
  show V.int (0 + (j : Int)) = V.int (dp [] (v.take j))
  rw [dp_nil_left, List.length_take, Nat.min_eq_left (by omega), Int.zero_add]
def spDistance : Sp := fun vs H Q _ => ∃ (a b : Addr) (u v : List Int), vs = [.ref a, .ref b] ∧ H a = some (.tup (u.map V.int)) ∧ H b = some (.tup (v.map V.int)) ∧ u.length ≤ 1000 ∧ v.length ≤ 1000 ∧ ∀ H', Same H H' → Q (.int (dp u v)) H'
structure DistTxt (mg : Str → Option Value) : Prop where
  list : mg "list" = none
  range : mg "range" = none
  len : mg "len" = none
  enum : mg "enumerate" = none
  min : mg "min" = none
theorem boot_min' : bootBuiltins "min" = some (.builtin "min") := by decide +kernel
section
variable {P : Program} {w : World} {K : PySem.W.Frag} {mg : Str → Option Value} {base : Heap}
abbrev NDi : List Str := ["one", "other", "row", "sign", "before", "place", "seen", "changed"]
theorem scDistance : FnScope NDi ["one", "other"] (defScope sDistance) := ⟨rfl, rfl, rfl, by decide +kernel, rfl, by decide +kernel, by decide +kernel⟩
theorem ok_distance {f : Addr} {fd : FuncData} (F : Fun K "distance" "distance" sDistance f fd) (T : DistTxt mg) : FnOk P w K mg base CX0 1 f fd ["one", "other"] spDistance := by
  refine F.ok scDistance (fun vs H Q E h => ?_) (fun cdv A outer s H vs Q E hr h => ?_)
  · obtain ⟨a, b, u, v, rfl, _⟩ := h
    rfl
  · obtain ⟨a, b, u, v, rfl, ha, hb, hu, hv, k⟩ := h
    have nd := scDistance.nd
    refine ⟨_,
      pss_cons (ps_set (i := 2) nd rfl (Or.inl rfl) (pe_listRg rfl (by rfl) T.list (prg_1 (by rfl) T.range (pe_op op_add (pe_callB call_len_seq (by rfl) T.len PySem.boot_len (pa_cons (pv 1) pa_nil)) pe_int))))
      (pss_cons (ps_for PassesOwn.never rfl (pi_tup (pv 0)) (pg_name (i := 3) nd rfl (Or.inl rfl))
        (pss_cons (ps_set (i := 4) nd rfl (Or.inl rfl) (pv 2))
        (pss_cons (ps_set (i := 2) nd rfl (Or.inl rfl) (pe_lst (pa_cons (pe_op op_add (pe_ix ix_list (pv 4) pe_int (fun _ _ => rfl)) pe_int) pa_nil)))
        (pss_one (ps_for PassesOwn.never rfl (pi_enumT (by rfl) T.enum (pa_cons (pv 1) pa_nil)) (pg_tup rfl (pgs_cons (pg_name (i := 5) nd rfl (Or.inl rfl)) (pgs_cons (pg_name (i := 6) nd rfl (Or.inl rfl)) pgs_nil)))
          (pss_cons (ps_set (i := 7) nd rfl (Or.inl rfl) (pe_op op_add (pe_ix ix_list (pv 4) (pv 5) (fun _ _ => rfl)) (pe_ifExp (pt_cmpR op_eq (pv 3) (pv 6) (nomark _)) pe_int pe_int)))
          (pss_one (ps_expr (pe_bm PySem.F.plainAttrs_list PySem.F.slot_list_append PySem.F.type_list_append mt_append (pv 2) (pa_cons (pe_callB (call_min3 rfl) (by rfl) T.min boot_min' (pa_cons (pv 7) (pa_cons (pe_op op_add (pe_ix ix_list (pv 4) (pe_op op_add (pv 5) pe_int) (fun _ _ => rfl)) pe_int) (pa_cons (pe_op op_add (pe_ix ix_list (pv 2) (pv 5) (fun _ _ => rfl)) pe_int) pa_nil)))) pa_nil))))))))))
      (pss_one (ps_ret (pe_ix ix_list (pv 2) (pe_un un_neg pe_int) (fun _ _ => rfl))))), ?_⟩
    refine ⟨_, rfl, b, _, rfl, .inr (SqT.of hb), _, _, rfl, rfl, _, rfl, RgOk.of_le (by decide) (by rw [List.length_map]; omega) (by decide) (by rw [List.length_map]; omega), fun r0 nr0 => ?_⟩
    rw [List.length_map, row_first]
    refine ⟨_, rfl, a, rfl, ⟨_, SqT.of (same_new nr0 _ _ ha)⟩, for_tup (K := K) (a := a) (xs := u.map V.int)
      (fun i σ H' => ∃ (r : Addr) (s3 s4 s5 s6 s7 : Option V), σ = [some (.ref a), some (.ref b), some (.ref r), s3, s4, s5, s6, s7] ∧ Same H H' ∧ H' r = some (.lst ((rowOf (u.take i) v (v.length + 1)).map V.int)))
      ⟨r0, none, none, none, none, none, rfl, same_new nr0, upd_same⟩ (fun i σ H' _ ⟨_, _, _, _, _, _, _, S, _⟩ => SqT.of (S _ _ ha)) ?_ ?_⟩
    · rintro i y σ Hi hi ⟨r, s3, s4, s5, s6, s7, rfl, S, hr1⟩
      obtain ⟨x, hx, rfl⟩ : ∃ x, u[i]? = some x ∧ y = V.int x := by
        rw [List.getElem?_map] at hi
        cases e : u[i]? with
        | none => rw [e] at hi; cases hi
        | some x => rw [e] at hi; exact ⟨x, rfl, (Option.some.inj hi).symm⟩
      have hut := take_more hx
      have hil : i < u.length := (List.getElem?_eq_some_iff.mp hx).1
      refine ⟨_, rfl, ?_⟩
      refine ⟨_, rfl, _, _, _, _, rfl, rfl, SqL.of hr1, atI_nat (j := 0) (rowOf_at _ _ (by omega)), _, _, rfl, rfl, (by show 1 ≤ sizeLine; decide), fun q nq => ?_⟩
      have Sq := same_new (o := .lst [.int (dp (u.take i) (v.take 0) + 1)]) nq
      have hq0 : upd Hi q (.lst [.int (dp (u.take i) (v.take 0) + 1)]) q = some (.lst ((rowOf (u.take (i + 1)) v 1).map V.int)) := by
        rw [upd_same]
        congr 2
        show [V.int (dp (u.take i) (v.take 0) + 1)] = [V.int (dp (u.take (i + 1)) (v.take 0))]
        rw [List.take_zero, dp_nil_right, dp_nil_right, List.length_take, List.length_take]
        congr 2
        omega
      refine ⟨_, rfl, b, _, rfl, SqT.of (Sq _ _ (S _ _ hb)), for_it (walk_enumT (K := K) (a := b) (xs := v.map V.int))
        (fun j σ H' => ∃ s5 s6 s7 : Option V, σ = [some (.ref a), some (.ref b), some (.ref q), some (.int x), some (.ref r), s5, s6, s7] ∧ Same Hi H' ∧ H' q = some (.lst ((rowOf (u.take (i + 1)) v (j + 1)).map V.int)))
        ⟨s5, s6, s7, rfl, Sq, hq0⟩ (fun j σ H' _ ⟨_, _, _, _, S', _⟩ => SqT.of (S' _ _ (S _ _ hb))) ?_ ?_⟩
      · rintro j z σ Hj Hj' hj ⟨t5, t6, t7, rfl, Sj, hqj⟩ ⟨TT, y1, y2, rfl, nT, rfl, e1, e2⟩
        cases e1
        obtain ⟨c, hc, rfl⟩ : ∃ c, v[j]? = some c ∧ y2 = V.int c := by
          have e2 : (v.map V.int)[j]? = some y2 := e2
          rw [List.getElem?_map] at e2
          cases e : v[j]? with
          | none => rw [e] at e2; cases e2
          | some c => rw [e] at e2; exact ⟨c, rfl, (Option.some.inj e2).symm⟩
        have hvt := take_more hc
        have hjl : j < v.length := (List.getElem?_eq_some_iff.mp hc).1
        have ST := same_new (o := .tup [.int (j : Nat), .int c]) nT
        have hrj := ST _ _ (Sj _ _ hr1)
        have hqj' := ST _ _ hqj
        refine ⟨TT, _, rfl, SqT.of upd_same, rfl, _, _, rfl, _, _, rfl, rfl, ?_⟩
        refine ⟨_, rfl, _, rfl, _, _, _, _, rfl, rfl, SqL.of hrj, atI_nat (j := j) (rowOf_at _ _ (by omega)), _, rfl, _, rfl, rfl, _, rfl, ?_⟩
        have fin : ∀ d : Int, d = (if x = c then 0 else 1) → mn3 (dp (u.take i) (v.take j) + d) (dp (u.take i) (v.take (j + 1)) + 1) (dp (u.take (i + 1)) (v.take j) + 1) = dp (u.take (i + 1)) (v.take (j + 1)) := fun d ed => by
          rw [hut, hvt, dp_snoc, ed]
          unfold mn3
          omega
        have ec : decide (V.int x = V.int c) = decide (x = c) := by
          by_cases h : x = c
          · subst h; rw [decide_eq_true rfl, decide_eq_true rfl]
          · rw [decide_eq_false h, decide_eq_false (fun z => h (V.int.inj z))]
        rw [ec]
        refine ite2 (fun h => ?_) (fun h => ?_)
        · refine ⟨_, _, rfl, rfl, ?_⟩
          refine ⟨_, rfl, .inl ⟨rfl, _, SqL.of hqj'⟩, _, rfl, _, rfl, _, rfl, _, _, rfl, rfl, _, _, _, _, rfl, rfl, SqL.of hrj, atI_nat (j := j + 1) (rowOf_at _ _ (by omega)), _, _, rfl, rfl, ?_⟩
          refine ⟨_, rfl, _, rfl, _, _, _, _, rfl, rfl, SqL.of hqj', atI_nat (j := j) (rowOf_at _ _ (by omega)), _, _, rfl, rfl, _, _, _, rfl, ?_⟩
          refine ⟨q, _, _, rfl, rfl, hqj', (by rw [List.length_map, rowOf_len]; exact Nat.lt_of_le_of_lt (show j + 1 ≤ 1000 by omega) (by decide)), ?_⟩
          refine ⟨_, _, _, rfl, same_mut (fun b o e => ST _ _ (Sj _ _ e)) nq, ?_⟩
          rw [upd_same, rowOf_succ _ _ (j + 1), List.map_append, fin 0 (by rw [if_pos (of_decide_eq_true h)])]
          rfl
        · refine ⟨_, _, rfl, rfl, ?_⟩
          refine ⟨_, rfl, .inl ⟨rfl, _, SqL.of hqj'⟩, _, rfl, _, rfl, _, rfl, _, _, rfl, rfl, _, _, _, _, rfl, rfl, SqL.of hrj, atI_nat (j := j + 1) (rowOf_at _ _ (by omega)), _, _, rfl, rfl, ?_⟩
          refine ⟨_, rfl, _, rfl, _, _, _, _, rfl, rfl, SqL.of hqj', atI_nat (j := j) (rowOf_at _ _ (by omega)), _, _, rfl, rfl, _, _, _, rfl, ?_⟩
          refine ⟨q, _, _, rfl, rfl, hqj', (by rw [List.length_map, rowOf_len]; exact Nat.lt_of_le_of_lt (show j + 1 ≤ 1000 by omega) (by decide)), ?_⟩
          refine ⟨_, _, _, rfl, same_mut (fun b o e => ST _ _ (Sj _ _ e)) nq, ?_⟩
          rw [upd_same, rowOf_succ _ _ (j + 1), List.map_append, fin 1 (by rw [if_neg (fun z => h (decide_eq_true z))])]
          rfl
      · rintro σ H' ⟨t5, t6, t7, rfl, S', hq'⟩
        rw [List.length_map] at hq'
        exact ⟨q, _, _, _, _, _, rfl, S.trans S', hq'⟩
    · rintro σ H' ⟨r, s3, s4, s5, s6, s7, rfl, S, hr1⟩
      rw [List.length_map, List.take_length, rowOf_succ, List.map_append] at hr1
      refine ⟨_, rfl, _, rfl, r, _, _, _, rfl, rfl, SqL.of hr1, atI_last _ _, ?_⟩
      have e : dp u (v.take v.length) = dp u v := by rw [List.take_length]
      show Q (.int (dp u (v.take v.length))) H'
      rw [e]
      exact k H' S
end
end Stp
set_option Elab.async false
set_option linter.all false
set_option maxRecDepth 100000
set_option maxHeartbeats 4000000
namespace Stp
open PySem PyProof.Rows L2
abbrev sFar : Stmt := top 13
structure FarTxt (mg : Str → Option Value) : Prop where
  range : mg "range" = none
  len : mg "len" = none
  min : mg "min" = none
  int : mg "int" = none
/-- what is reckoned up to the place (k, j) -/
def FarInv (u v : List Int) (f : Nat → Nat → Int) (k j : Nat) : Prop := ∀ k' j', k' ≤ u.length → j' ≤ v.length → (k' < k ∨ k' = 0 ∨ j' = 0 ∨ (k' = k ∧ j' < j)) → f k' j' = dp (u.take k') (v.take j')
theorem far_start (u v : List Int) : FarInv u v (fun k j => (k : Int) + j) 1 0 := fun k j hk hj h => by
  have e : k = 0 ∨ j = 0 := by omega
  rcases e with e | e
  · subst e
    rw [List.take_zero, dp_nil_left, List.length_take, Nat.min_eq_left hj]
    show ((0 : Nat) : Int) + (j : Int) = _
    omega
  · subst e
    rw [List.take_zero, dp_nil_right, List.length_take, Nat.min_eq_left hk]
    show (k : Int) + ((0 : Nat) : Int) = _
    omega
theorem far_next {u v : List Int} {f : Nat → Nat → Int} {k j : Nat} {x y : Int} (I : FarInv u v f (k + 1) (j + 1)) (hx : u[k]? = some x) (hy : v[j]? = some y) (d : Int) (hd : d = if x = y then 0 else 1) :
    FarInv u v (fset f (k + 1) (j + 1) (mn3 (f k (j + 1) + 1) (f (k + 1) j + 1) (f k j + d))) (k + 1) (j + 1 + 1) := fun k' j' hk hj h => by
  have hkl : k < u.length := (List.getElem?_eq_some_iff.mp hx).1
  have hjl : j < v.length := (List.getElem?_eq_some_iff.mp hy).1
  unfold fset
  by_cases e : k' = k + 1 ∧ j' = j + 1
  · obtain ⟨rfl, rfl⟩ := e
    rw [if_pos ⟨rfl, rfl⟩, I k (j + 1) (by omega) hj (by omega), I (k + 1) j hk (by omega) (by omega), I k j (by omega) (by omega) (by omega), take_more hx, take_more hy, dp_snoc, hd]
    rfl
  · rw [if_neg e]
    exact I k' j' hk hj (by omega)
section
variable {P : Program} {w : World} {K : PySem.W.Frag} {mg : Str → Option Value} {base : Heap}
abbrev NFa : List Str := ["_law_one", "_law_two", "_law_k", "_law_j", "_law_far_here"]
theorem scFar : FnScope NFa ["_law_one", "_law_two"] (defScope sFar) := ⟨rfl, rfl, rfl, by decide +kernel, rfl, by decide +kernel, by decide +kernel⟩
theorem int_item {u : List Int} {i : Nat} {y : V} (h : (u.map V.int)[i]? = some y) : ∃ x, u[i]? = some x ∧ y = V.int x := by
  rw [List.getElem?_map] at h
  cases e : u[i]? with
  | none => rw [e] at h; cases h
  | some x => rw [e] at h; exact ⟨x, rfl, (Option.some.inj h).symm⟩
theorem ok_far {f : Addr} {fd : FuncData} (F : Fun K "_law_far" "_law_far" sFar f fd) (T : FarTxt mg) : FnOk P w K mg base CX0 1 f fd ["_law_one", "_law_two"] spDistance := by
  refine F.ok scFar (fun vs H Q E h => ?_) (fun cdv A outer s H vs Q E hr h => ?_)
  · obtain ⟨a, b, u, v, rfl, _⟩ := h
    rfl
  · obtain ⟨a, b, u, v, rfl, ha, hb, hu, hv, k⟩ := h
    have nd := scFar.nd
    refine ⟨_,
      pss_cons (ps_setLc (i := 4) (own := [("_law_k", 2)]) (g := gName 2) (tt := tYes) (by rfl) nd rfl rfl (sw_true rfl rfl rfl (by decide +kernel)) (pi_range1 rfl T.range (pa_cons (pe_op op_add (pe_callB call_len_seq (by rfl) T.len PySem.boot_len (pa_cons (pv 0) pa_nil)) pe_int) pa_nil))
          (blkOk_by (N := NFa) (sc := defScope sFar) (by decide +kernel)) (fun _ _ _ _ _ => pg_name (i := 2) nd rfl (Or.inr rfl)) (fun _ _ _ _ _ => pts_nil)
          (fun _ _ _ _ _ => pe_lc (own := [("_law_j", 3)]) (g := gName 3) (tt := tYes) rfl nd (pi_range1 rfl T.range (pa_cons (pe_op op_add (pe_callB (call_lenK (K := K) rfl) (by rfl) T.len PySem.boot_len (pa_cons (pv 1) pa_nil)) pe_int) pa_nil))
            (blkOk_by (by kernel_rfl)) (fun _ _ _ _ _ => pg_name (i := 3) nd rfl (Or.inl rfl)) (fun _ _ _ _ _ => pts_nil) (fun _ _ _ _ _ => pe_op op_add (pv 2) (pv 3))))
      (pss_cons (ps_for PassesOwn.never rfl (pi_range2 (by rfl) T.range (pa_cons pe_int (pa_cons (pe_op op_add (pe_callB call_len_seq (by rfl) T.len PySem.boot_len (pa_cons (pv 0) pa_nil)) pe_int) pa_nil))) (pg_name (i := 2) nd rfl (Or.inl rfl))
        (pss_one (ps_for PassesOwn.never rfl (pi_range2 (by rfl) T.range (pa_cons pe_int (pa_cons (pe_op op_add (pe_callB call_len_seq (by rfl) T.len PySem.boot_len (pa_cons (pv 1) pa_nil)) pe_int) pa_nil))) (pg_name (i := 3) nd rfl (Or.inl rfl))
          (pss_one (ps_asg (pe_callB (call_min3 rfl) (by rfl) T.min boot_min' (pa_cons (pe_op op_add (pe_ix ix_list (pe_ix ix_list (pv 4) (pe_op op_sub (pv 2) pe_int) (fun _ _ => rfl)) (pv 3) (fun _ _ => rfl)) pe_int)
            (pa_cons (pe_op op_add (pe_ix ix_list (pe_ix ix_list (pv 4) (pv 2) (fun _ _ => rfl)) (pe_op op_sub (pv 3) pe_int) (fun _ _ => rfl)) pe_int)
            (pa_cons (pe_op op_add (pe_ix ix_list (pe_ix ix_list (pv 4) (pe_op op_sub (pv 2) pe_int) (fun _ _ => rfl)) (pe_op op_sub (pv 3) pe_int) (fun _ _ => rfl)) (pe_callTy call_int1 (by rfl) T.int boot_int (pa_cons (pe_cmpR op_ne (pe_ix ix_tup (pv 0) (pe_op op_sub (pv 2) pe_int) (fun _ _ => rfl)) (pe_ix ix_tup (pv 1) (pe_op op_sub (pv 3) pe_int) (fun _ _ => rfl)) (nomark _)) pa_nil))) pa_nil))))
            (pg_sub (pe_ix ix_list (pv 4) (pv 2) (fun _ _ => rfl)) (pv 3) set_list))))))
      (pss_one (ps_ret (pe_ix ix_list (pe_ix ix_list (pv 4) (pe_callB call_len_seq (by rfl) T.len PySem.boot_len (pa_cons (pv 0) pa_nil)) (fun _ _ => rfl)) (pe_callB call_len_seq (by rfl) T.len PySem.boot_len (pa_cons (pv 1) pa_nil)) (fun _ _ => rfl))))), ?_⟩
    have lu : (u.map V.int).length = u.length := List.length_map ..
    have lw : (v.map V.int).length = v.length := List.length_map ..
    -- the table
    refine ⟨_, rfl, a, _, rfl, .inr (SqT.of ha), _, _, rfl, rfl, ?_⟩
    rw [lu]
    refine ⟨(u.length : Int) + 1, rfl, by omega, by omega, fun D nD => ?_⟩
    rw [show ((u.length : Int) + 1).toNat = u.length + 1 by omega]
    refine lc_range (lo := 0) (n := u.length + 1) (fun i H' => ∃ as, Mat H H' D as (fun k j => (k : Int) + j) i (v.length + 1)) ?_ ?_ ?_
    · exact ⟨[], same_new nD, upd_same, nD, (fun _ z => nomatch z), .nil, rfl, (fun k a e => by simp at e), (fun z => nomatch z)⟩
    · rintro i Hi hi ⟨as, M⟩
      refine ⟨rfl, ?_⟩
      refine ⟨_, rfl, b, _, rfl, .inr (SqT.of (M.same _ _ hb)), _, _, rfl, rfl, ?_⟩
      rw [lw]
      refine ⟨(v.length : Int) + 1, rfl, by omega, by omega, fun D2 nD2 => ?_⟩
      rw [show ((v.length : Int) + 1).toNat = v.length + 1 by omega]
      refine lc_range (lo := 0) (n := v.length + 1) (fun j H' => Same Hi H' ∧ H' D2 = some (.lst (mrow (fun k j => (k : Int) + j) j i))) ⟨same_new nD2, upd_same⟩ ?_ ?_
      · rintro j Hj hj ⟨Sj, hD2⟩
        refine ⟨rfl, ?_⟩
        refine ⟨_, rfl, _, rfl, _, _, rfl, rfl, _, hD2, ?_, same_mut Sj nD2, ?_⟩
        · rw [mrow_len]
          exact Nat.lt_of_lt_of_le hj (Nat.le_trans (show v.length + 1 ≤ 1001 by omega) (by decide))
        · rw [upd_same]
          unfold mrow
          rw [List.range_succ, List.map_append]
          show some (HO.lst (_ ++ [V.int (0 + (i : Int) + (0 + (j : Int)))])) = some (HO.lst (_ ++ [V.int ((i : Int) + j)]))
          rw [Int.zero_add, Int.zero_add]
      · rintro Hj ⟨Sj, hD2⟩
        refine ⟨_, Sj _ _ M.tab, ?_, as ++ [D2], M.push Sj nD2 hD2⟩
        rw [List.length_map, M.len]
        exact Nat.lt_of_lt_of_le hi (Nat.le_trans (show u.length + 1 ≤ 1001 by omega) (by decide))
    · rintro Hd ⟨as, M⟩
      -- the loops
      refine ⟨_, rfl, a, _, rfl, .inr (SqT.of (M.same _ _ ha)), _, _, rfl, rfl, ?_⟩
      rw [lu]
      refine ⟨1, (u.length : Int) + 1, rfl, ⟨by decide, by decide, by omega, by omega⟩, ?_⟩
      rw [show ((u.length : Int) + 1 - 1).toNat = u.length by omega]
      refine for_range (lo := 1) (n := u.length) (fun i σ H' => ∃ (s2 s3 : Option V) (g : Nat → Nat → Int), σ = [some (.ref a), some (.ref b), s2, s3, some (.ref D)] ∧ Mat H H' D as g (u.length + 1) (v.length + 1) ∧ FarInv u v g (i + 1) 0) ⟨_, _, _, rfl, M, far_start u v⟩ ?_ ?_
      · rintro i σ Hi hi ⟨s2, s3, g, rfl, Mi, Ii⟩
        obtain ⟨x, hx⟩ : ∃ x, u[i]? = some x := ⟨_, List.getElem?_eq_getElem hi⟩
        refine ⟨_, rfl, b, _, rfl, .inr (SqT.of (Mi.same _ _ hb)), _, _, rfl, rfl, ?_⟩
        rw [lw]
        refine ⟨1, (v.length : Int) + 1, rfl, ⟨by decide, by decide, by omega, by omega⟩, ?_⟩
        rw [show ((v.length : Int) + 1 - 1).toNat = v.length by omega]
        refine for_range (lo := 1) (n := v.length) (fun j σ H' => ∃ (s3 : Option V) (g : Nat → Nat → Int), σ = [some (.ref a), some (.ref b), some (.int (1 + (i : Nat))), s3, some (.ref D)] ∧ Mat H H' D as g (u.length + 1) (v.length + 1) ∧ FarInv u v g (i + 1) (j + 1)) ⟨_, _, rfl, Mi, fun k' j' h1 h2 h3 => Ii k' j' h1 h2 (by omega)⟩ ?_ ?_
        · rintro j σ Hj hj ⟨s3, g, rfl, Mj, Ij⟩
          obtain ⟨y, hy⟩ : ∃ y, v[j]? = some y := ⟨_, List.getElem?_eq_getElem hj⟩
          obtain ⟨a0, ha0, ra0⟩ := Mj.at (show i < u.length + 1 by omega)
          obtain ⟨a1, ha1, ra1⟩ := Mj.at (show i + 1 < u.length + 1 by omega)
          have e1 : ∀ i : Nat, (1 : Int) + (i : Nat) = ((i + 1 : Nat) : Int) := fun i => by omega
          have e0 : ∀ i : Nat, (1 : Int) + (i : Nat) - 1 = ((i : Nat) : Int) := fun i => by omega
          have hu' : (u.map V.int)[i]? = some (.int x) := by rw [List.getElem?_map, hx]; rfl
          have hv' : (v.map V.int)[j]? = some (.int y) := by rw [List.getElem?_map, hy]; rfl
          refine ⟨_, rfl, _, rfl, _, _, rfl, rfl, D, _, _, _, rfl, rfl, SqL.of Mj.tab, by rw [e0]; exact atI_nat ra0, _, rfl, a0, _, _, _, rfl, rfl, SqL.of (Mj.rows i a0 ha0), by rw [e1]; exact atI_nat (mrow_at g (by omega)), _, _, rfl, rfl, ?_⟩
          refine ⟨_, rfl, _, rfl, D, _, _, _, rfl, rfl, SqL.of Mj.tab, by rw [e1]; exact atI_nat ra1, _, rfl, _, _, rfl, rfl, a1, _, _, _, rfl, rfl, SqL.of (Mj.rows (i + 1) a1 ha1), by rw [e0]; exact atI_nat (mrow_at g (by omega)), _, _, rfl, rfl, ?_⟩
          refine ⟨_, rfl, _, rfl, _, _, rfl, rfl, D, _, _, _, rfl, rfl, SqL.of Mj.tab, by rw [e0]; exact atI_nat ra0, _, rfl, _, _, rfl, rfl, a0, _, _, _, rfl, rfl, SqL.of (Mj.rows i a0 ha0), by rw [e0]; exact atI_nat (mrow_at g (by omega)), ?_⟩
          refine ⟨_, rfl, _, rfl, _, _, rfl, rfl, a, _, _, _, rfl, rfl, SqT.of (Mj.same _ _ ha), by rw [e0]; exact atI_nat hu', _, rfl, _, rfl, _, _, rfl, rfl, b, _, _, _, rfl, rfl, SqT.of (Mj.same _ _ hb), by rw [e0]; exact atI_nat hv', rfl, .inr ⟨_, rfl, _, _, rfl, rfl, _, _, _, rfl, ?_⟩⟩
          refine ⟨_, rfl, _, rfl, D, _, _, _, rfl, rfl, SqL.of Mj.tab, by rw [e1]; exact atI_nat ra1, _, rfl, a1, _, _, j + 1, rfl, rfl, Mj.rows (i + 1) a1 ha1, ?_, ?_⟩
          · rw [mrow_len, e1]
            unfold ixN
            rw [if_pos (by omega), if_pos (by omega)]
            congr 1
          · have ed : (if (!decide (V.int x = V.int y)) = true then (1 : Int) else 0) = if x = y then 0 else 1 := by
              by_cases h : x = y
              · subst h; rw [decide_eq_true rfl, if_pos rfl]; rfl
              · rw [decide_eq_false (fun z => h (V.int.inj z)), if_neg h]; rfl
            exact ⟨_, _, rfl, Mj.set ha1, far_next Ij hx hy _ ed⟩
        · rintro σ Hj ⟨s3, g, rfl, Mj, Ij⟩
          exact ⟨_, _, _, rfl, Mj, fun k' j' h1 h2 h3 => Ij k' j' h1 h2 (by omega)⟩
      · rintro σ Hj ⟨s2, s3, g, rfl, Mj, Ij⟩
        obtain ⟨a1, ha1, ra1⟩ := Mj.at (show u.length < u.length + 1 by omega)
        refine ⟨_, rfl, _, rfl, a, _, rfl, .inr (SqT.of (Mj.same _ _ ha)), D, _, _, _, rfl, rfl, SqL.of Mj.tab, by rw [lu]; exact atI_nat ra1, _, rfl, b, _, rfl, .inr (SqT.of (Mj.same _ _ hb)), a1, _, _, _, rfl, rfl, SqL.of (Mj.rows _ a1 ha1), by rw [lw]; exact atI_nat (mrow_at g (by omega)), ?_⟩
        have e : g u.length v.length = dp u v := by
          rw [Ij u.length v.length (Nat.le_refl _) (Nat.le_refl _) (by omega), List.take_length, List.take_length]
        show Q (.int (g u.length v.length)) Hj
        rw [e]
        exact k Hj Mj.same
end
end Stp
set_option Elab.async false
set_option linter.all false
set_option maxRecDepth 100000
set_option maxHeartbeats 4000000
/-! tuples cut and joined, whichever object comes of it; things beside the pen -/
namespace Stp
open PySem PyProof.Rows L2
section
variable {K : PySem.W.Frag} {H : Hp} {a b : Addr} {xs ys : List V} {Q : VK}
theorem slA_any {lo hi : Option Int} (ha : H a = some (.tup xs)) (k : ∀ H' c, Same H H' → H' c = some (.tup (cutV xs lo hi)) → Q (.ref c) H') : rSlA K (.ref a) lo hi H Q := by
  refine ⟨a, xs, rfl, SqT.of ha, fun h => ?_, fun h p hp => k _ p (same_new hp) upd_same⟩
  refine k H a (Same.refl H) ?_
  unfold cutV
  rw [h.1, h.2, List.drop_zero, Nat.sub_zero, List.take_length]
  exact ha
theorem catA_any (ha : H a = some (.tup xs)) (hb : H b = some (.tup ys)) (hl : xs.length + ys.length ≤ 1000) (k : ∀ H' c, Same H H' → H' c = some (.tup (xs ++ ys)) → Q (.ref c) H') : rCatA K (.ref a) (.ref b) H Q := by
  refine ⟨a, b, xs, ys, rfl, rfl, SqT.of ha, SqT.of hb, Nat.le_trans hl (by decide), fun h => ?_, fun h1 h => ?_, fun _ _ p hp => k _ p (same_new hp) upd_same⟩
  · subst h
    exact k H b (Same.refl H) hb
  · subst h
    refine k H a (Same.refl H) ?_
    rw [List.append_nil]
    exact ha
theorem cut_to (xs : List V) (n : Nat) : cutV xs none (some (n : Int)) = xs.take n := by
  unfold cutV
  rw [HT.sIx_none, HT.sIx_nat, List.drop_zero, Nat.sub_zero]
  by_cases h : n ≤ xs.length
  · rw [Nat.min_eq_left h]
  · rw [Nat.min_eq_right (by omega), List.take_of_length_le (Nat.le_refl _), List.take_of_length_le (by omega)]
theorem cut_from (xs : List V) (n : Nat) : cutV xs (some (n : Int)) none = xs.drop n := by
  unfold cutV
  rw [HT.sIx_none, HT.sIx_nat]
  by_cases h : n ≤ xs.length
  · rw [Nat.min_eq_left h, List.take_of_length_le (by rw [List.length_drop]; exact Nat.le_refl _)]
  · rw [Nat.min_eq_right (by omega), List.drop_of_length_le (by omega : xs.length ≤ n), List.drop_length]
    simp
end
/-- a thing that isn't the pen -/
def ThP (p : Addr) (H : Hp) (x : V) : Prop := Th H x ∧ x ≠ .ref p
theorem ThP.but {p : Addr} {H H' : Hp} {x : V} (t : ThP p H x) (b : But p H H') : ThP p H' x := by
  refine ⟨?_, t.2⟩
  have np : ∀ {a : Addr}, V.ref a ≠ V.ref p → a ≠ p := fun h z => h (by rw [z])
  cases t.1 with
  | non => exact .non
  | bl b => exact .bl b
  | int i => exact .int i
  | str z => exact .str z
  | lst h => exact .lst (b _ _ (np t.2) h)
  | tup h => exact .tup (b _ _ (np t.2) h)
  | dK h => exact .dK (b _ _ (np t.2) h)
theorem ThP.updL {p D : Addr} {H : Hp} {x : V} {xs ys : List V} (t : ThP p H x) (h : H D = some (.lst xs)) : ThP p (upd H D (.lst ys)) x := by
  refine ⟨?_, t.2⟩
  cases t.1 with
  | non => exact .non
  | bl b => exact .bl b
  | int i => exact .int i
  | str z => exact .str z
  | @lst a zs h' =>
    by_cases e : a = D
    · rw [e]; exact .lst upd_same
    · exact .lst (by rw [upd_ne e]; exact h')
  | tup h' => exact .tup (by rw [upd_ne (ne_of h' h (by intro z; cases z))]; exact h')
  | dK h' => exact .dK (by rw [upd_ne (ne_of h' h (by intro z; cases z))]; exact h')
/-- .. and the items of a tuple neither -/
def ThTP (p : Addr) (H : Hp) (x : V) : Prop := ThP p H x ∧ ∀ xs, tupV H x = some xs → ∀ y ∈ xs, ThP p H y
theorem ThTP.thT {p : Addr} {H : Hp} {x : V} (t : ThTP p H x) : ThT H x := ⟨t.1.1, fun xs e y hy => (t.2 xs e y hy).1⟩
theorem ThP.flat {p : Addr} {H : Hp} {x : V} (h : ∀ a, x ≠ .ref a) (t : Th H x) : ThTP p H x := by
  refine ⟨⟨t, h p⟩, fun xs e => ?_⟩
  obtain ⟨a, ea, _⟩ := tupV_at e
  exact absurd ea (h a)
theorem but_new {p a : Addr} {H H' : Hp} {o : HO} (b : But p H H') (ha : H' a = none) : But p H (upd H' a o) := b.trans (Same.but (same_new ha))
/-- a thing of our own (new behind H0) changes -/
theorem but_own {p a : Addr} {H0 H : Hp} {o : HO} (b : But p H0 H) (ha : H0 a = none) : But p H0 (upd H a o) := fun c u n h => by
  rw [upd_ne (ne_of_none h ha)]
  exact b c u n h
end Stp
set_option Elab.async false
set_option linter.all false
set_option maxRecDepth 100000
set_option maxHeartbeats 4000000
namespace Stp
open PySem PyProof.Rows L2
abbrev sAny : Stmt := top 10
structure AnyTxt (mg : Str → Option Value) : Prop where
  range : mg "range" = none
  dict : mg "dict" = none
  len : mg "len" = none
  tuple : mg "tuple" = none
/-- how many draws _law_any makes at most -/
def anyC : Nat → Nat
  | 0 => 2
  | l + 1 => 2 + 3 * anyC l
theorem anyC_le {l : Nat} (h : l ≤ 4) : anyC l ≤ 1000 := by
  obtain h | h | h | h | h : l = 0 ∨ l = 1 ∨ l = 2 ∨ l = 3 ∨ l = 4 := by omega
  all_goals
    subst h
    decide
def spAny (l : Nat) : Sp := fun vs H Q _ => ∃ (p c : Addr) (n : Nat), vs = [.ref p, .int l] ∧ PenAt H p c n ∧ n + anyC l ≤ 900000000000 ∧
  ∀ (H' : Hp) (x : V), But p H H' → PenAt H' p c (n + anyC l) → ThTP p H' x → (∀ a, x = .ref a → H a = none) → Q x H'
theorem but_free {p : Addr} {H H' : Hp} (b : But p H H') {a : Addr} (n : a ≠ p) (h : H' a = Option.none) : H a = Option.none := by
  cases e : H a with
  | none => rfl
  | some o => rw [b a o n e] at h; cases h
theorem paired_of {α β : Type} {R : α → β → Prop} : ∀ {xs : List α} {ys : List β}, xs.length = ys.length → (∀ (i : Nat) (x : α) (y : β), xs[i]? = some x → ys[i]? = some y → R x y) → Paired R xs ys
  | [], [], _, _ => .nil
  | [], _ :: _, h, _ => by cases h
  | _ :: _, [], h, _ => by cases h
  | x :: xs, y :: ys, h, k => .cons (k 0 x y rfl rfl) (paired_of (Nat.succ.inj h) fun i a b e1 e2 => k (i + 1) a b e1 e2)
section
variable {P : Program} {w : World} {K : PySem.W.Frag} {mg : Str → Option Value} {base : Heap}
abbrev NAn : List Str := ["_law_pen_here", "_law_levels", "_law_way_no", "_law_inner", "_law_turn", "_law_k"]
theorem scAny : FnScope NAn ["_law_pen_here", "_law_levels"] (defScope sAny) := ⟨rfl, rfl, rfl, by decide +kernel, rfl, by decide +kernel, by decide +kernel⟩
def anyL : List V := [.int 0, .int 1, .int (-1), .bl true, .non, .str "", .str "0", .str "a", .str "aA", .int (10 ^ (39 : Int).toNat), .str "10"]
theorem anyL_at {d : Int} (h0 : 0 ≤ d) (h1 : d < 11) : ∃ x, atI anyL d = some x ∧ (∀ a, x ≠ V.ref a) ∧ ∀ H, Th H x := by
  obtain ⟨j, rfl⟩ := Int.eq_ofNat_of_zero_le h0
  have hj : j < anyL.length := by show j < 11; omega
  have m : anyL[j] ∈ anyL := List.getElem_mem hj
  refine ⟨anyL[j], atI_nat (List.getElem?_eq_getElem hj), ?_⟩
  generalize anyL[j] = x at m
  unfold anyL at m
  simp only [List.mem_cons, List.not_mem_nil, or_false] at m
  rcases m with h | h | h | h | h | h | h | h | h | h | h <;> (subst h; exact ⟨(fun a z => nomatch z), fun H => by constructor⟩)
theorem ok_any0 {f fN fD : Addr} {fd fdN fdD : FuncData} (F : Fun K "_law_any" "_law_any" sAny f fd) (T : AnyTxt mg) (TP : PenTxt mg)
    (FN : Fun K "_law_next" "_law_next" sNext fN fdN) (gN : mg "_law_next" = some (.ref fN)) (bN : Binds K fdN ["_law_pen_here"] [])
    (FD : Fun K "_law_draw" "_law_draw" sDraw fD fdD) (gD : mg "_law_draw" = some (.ref fD)) (bD : Binds K fdD ["_law_pen_here", "_law_under"] []) : FnOk P w K mg base CX0 3 f fd ["_law_pen_here", "_law_levels"] (spAny 0) := by
  have GD : FnOk P w K mg base CX0 2 fD fdD ["_law_pen_here", "_law_under"] spDraw := ok_draw FD TP FN gN bN
  refine F.ok scAny (fun vs H Q E h => ?_) (fun cdv A outer s H vs Q E hr h => ?_)
  · obtain ⟨p, c, n, rfl, _⟩ := h
    rfl
  · obtain ⟨p, c, n, rfl, PA, hn, k⟩ := h
    have nd := scAny.nd
    refine ⟨_,
      pss_cons (ps_set (i := 2) nd rfl (Or.inl rfl) (pe_call GD hr rfl gD FD.kp bD .nil pass0 (pa_cons (pv 0) (pa_cons (pe_ifExp (pt_cmpR op_gt (pv 1) pe_int (nomark _)) pe_int pe_int) pa_nil))))
      (pss_cons (ps_if (pt_cmpR op_lt (pv 2) pe_int (nomark _)) (pss_one (ps_ret (pe_ix ix_list (pe_lst (pa_cons pe_int (pa_cons pe_int (pa_cons (pe_un un_neg pe_int) (pa_cons pe_bl (pa_cons pe_non (pa_cons pe_str (pa_cons pe_str (pa_cons pe_str (pa_cons pe_str (pa_cons (pe_op op_pow pe_int pe_int) (pa_cons pe_str pa_nil)))))))))))) (pv 2) (fun _ _ => rfl)))) pss_nil)
      pss_never), ?_⟩
    refine ⟨_, rfl, _, rfl, _, _, rfl, rfl, _, rfl, if_f (by decide) ?_⟩
    refine ⟨p, c, 11, n, rfl, PA, by omega, by decide, by decide, fun H1 d b1 P1 d0 d1 => ?_⟩
    refine ⟨_, rfl, _, _, rfl, rfl, _, rfl, if_t (decide_eq_true d1) ?_⟩
    refine ⟨_, rfl, _, _, rfl, rfl, ⟨by decide, by decide, by decide⟩, (by show 11 ≤ sizeLine; decide), fun q nq => ?_⟩
    obtain ⟨x, hx, nx, tx⟩ := anyL_at d0 d1
    refine ⟨_, rfl, q, anyL, d, x, rfl, rfl, SqL.of upd_same, hx, ?_⟩
    exact k _ x (but_new b1 nq) ((P1.other (P1.neP nq) (P1.neC nq)).up (by unfold anyC; omega)) (ThP.flat nx (tx _)) (fun a e => absurd e (nx a))
def keysA : List V := [.str "a", .str "b", .str "c", .int 0]
def keyA (k : Nat) : Key := [Sum.inr ("a" : Str), Sum.inr ("b" : Str), Sum.inr ("c" : Str), Sum.inl 0].getD k (Sum.inl 0)
theorem keysA_at {k : Nat} (h : k < 4) : keysA[k]? = some (kV (keyA k)) := by
  obtain h | h | h | h : k = 0 ∨ k = 1 ∨ k = 2 ∨ k = 3 := by omega
  all_goals
    subst h
    rfl
theorem ok_anyS {l : Nat} {f fN fD : Addr} {fd fdN fdD : FuncData} (F : Fun K "_law_any" "_law_any" sAny f fd) (gF : mg "_law_any" = some (.ref f)) (bF : Binds K fd ["_law_pen_here", "_law_levels"] []) (T : AnyTxt mg) (TP : PenTxt mg)
    (FN : Fun K "_law_next" "_law_next" sNext fN fdN) (gN : mg "_law_next" = some (.ref fN)) (bN : Binds K fdN ["_law_pen_here"] [])
    (FD : Fun K "_law_draw" "_law_draw" sDraw fD fdD) (gD : mg "_law_draw" = some (.ref fD)) (bD : Binds K fdD ["_law_pen_here", "_law_under"] [])
    (hl : l + 1 ≤ 4) (GA : FnOk P w K mg base CX0 (l + 3) f fd ["_law_pen_here", "_law_levels"] (spAny l)) : FnOk P w K mg base CX0 (l + 1 + 3) f fd ["_law_pen_here", "_law_levels"] (spAny (l + 1)) := by
  have GD : FnOk P w K mg base CX0 2 fD fdD ["_law_pen_here", "_law_under"] spDraw := ok_draw FD TP FN gN bN
  refine F.ok scAny (fun vs H Q E h => ?_) (fun cdv A outer s H vs Q E hr h => ?_)
  · obtain ⟨p, c, n, rfl, _⟩ := h
    rfl
  · obtain ⟨p, c, n, rfl, PA, hn, k⟩ := h
    have nd := scAny.nd
    have hr2 : Room 2 _ := hr.mono (by omega)
    refine ⟨_,
      pss_cons (ps_set (i := 2) nd rfl (Or.inl rfl) (pe_call GD hr2 rfl gD FD.kp bD .nil pass0 (pa_cons (pv 0) (pa_cons (pe_ifExp (pt_cmpR op_gt (pv 1) pe_int (nomark _)) pe_int pe_int) pa_nil))))
      (pss_cons (ps_if (pt_cmpR op_lt (pv 2) pe_int (nomark _)) (pss_one (ps_ret (pe_ix ix_list (pe_lst (pa_cons pe_int (pa_cons pe_int (pa_cons (pe_un un_neg pe_int) (pa_cons pe_bl (pa_cons pe_non (pa_cons pe_str (pa_cons pe_str (pa_cons pe_str (pa_cons pe_str (pa_cons (pe_op op_pow pe_int pe_int) (pa_cons pe_str pa_nil)))))))))))) (pv 2) (fun _ _ => rfl)))) pss_nil)
      (pss_cons (ps_set (i := 3) nd rfl (Or.inr rfl) (pe_lc (own := [("_law_turn", 4)]) (g := gName 4) (tt := tYes) rfl nd (pi_range1 rfl T.range (pa_cons (pe_call GD hr2 rfl gD FD.kp bD .nil pass0 (pa_cons (pv 0) (pa_cons pe_int pa_nil))) pa_nil))
        (blkOk_by (N := NAn) (sc := defScope sAny) (by decide +kernel)) (fun _ _ _ _ _ => pg_name (i := 4) nd rfl (Or.inl rfl)) (fun _ _ _ _ _ => pts_nil)
        (fun _ _ _ _ _ => pe_call GA hr rfl gF F.kp bF .nil pass0 (pa_cons (pv 0) (pa_cons (pe_op op_sub (pv 1) pe_int) pa_nil)))))
      (pss_cons (ps_if (pt_cmpR op_eq (pv 2) pe_int (nomark _)) (pss_one (ps_ret (pv 3))) pss_nil)
      (pss_cons (ps_if (pt_cmpR op_eq (pv 2) pe_int (nomark _)) (pss_one (ps_ret (pe_callTy (call_dictP rfl) (by rfl) T.dict (by decide +kernel) (pa_cons (pe_lc (own := [("_law_k", 5)]) (g := gName 5) (tt := tYes) rfl nd (pi_range1 rfl T.range (pa_cons (pe_callB call_len_seq (by rfl) T.len PySem.boot_len (pa_cons (pv 3) pa_nil)) pa_nil))
        (blkOk_by (N := NAn) (sc := defScope sAny) (by decide +kernel)) (fun _ _ _ _ _ => pg_name (i := 5) nd rfl (Or.inl rfl)) (fun _ _ _ _ _ => pts_nil)
        (fun _ _ _ _ _ => pe_tup (pa_cons (pe_ix (ix_listK (K := K) rfl) (pe_lst (pa_cons pe_str (pa_cons pe_str (pa_cons pe_str (pa_cons pe_int pa_nil))))) (pv 5) (fun _ _ => rfl)) (pa_cons (pe_ix (ix_listK (K := K) rfl) (pv 3) (pv 5) (fun _ _ => rfl)) pa_nil)))) pa_nil)))) pss_nil)
      (pss_one (ps_ret (pe_callTy call_tuple_of (by rfl) T.tuple boot_tuple (pa_cons (pv 3) pa_nil)))))))), ?_⟩
    have hc := anyC_le hl
    have ec : anyC (l + 1) = 2 + 3 * anyC l := rfl
    refine ⟨_, rfl, _, rfl, _, _, rfl, rfl, _, rfl, if_t (decide_eq_true (show (0 : Int) < ((l + 1 : Nat) : Int) by omega)) ?_⟩
    refine ⟨p, c, 15, n, rfl, PA, by omega, by decide, by decide, fun H1 d b1 P1 d0 d1 => ?_⟩
    refine ⟨_, rfl, _, _, rfl, rfl, _, rfl, ite2 (fun hd => ?_) (fun hd => ?_)⟩
    · refine ⟨_, rfl, _, _, rfl, rfl, ⟨by decide, by decide, by decide⟩, (by show 11 ≤ sizeLine; decide), fun q nq => ?_⟩
      obtain ⟨x, hx, nx, tx⟩ := anyL_at d0 (of_decide_eq_true hd)
      refine ⟨_, rfl, q, anyL, d, x, rfl, rfl, SqL.of upd_same, hx, ?_⟩
      exact k _ x (but_new b1 nq) ((P1.other (P1.neP nq) (P1.neC nq)).up (by omega)) (ThP.flat nx (tx _)) (fun a e => absurd e (nx a))
    · refine ⟨_, rfl, p, c, 4, n + 1, rfl, P1, by omega, by decide, by decide, fun H2 e b2 P2 e0 e1 => ?_⟩
      refine ⟨e, rfl, by omega, by omega, fun D nD => ?_⟩
      have Dp := P2.neP nD
      have Dc := P2.neC nD
      have en : e.toNat ≤ 3 := by omega
      refine lc_range (lo := 0) (n := e.toNat) (fun i H' => But p H2 H' ∧ PenAt H' p c (n + 2 + i * anyC l) ∧ ∃ xs : List V, xs.length = i ∧ H' D = some (.lst xs) ∧ ∀ y ∈ xs, ThP p H' y)
        ⟨but_new (But.refl p H2) nD, (P2.other Dp Dc).up (by omega), [], rfl, upd_same, (fun y hy => nomatch hy)⟩ ?_ ?_
      · rintro i Hi hi ⟨bi, Pi, xs, lx, hD, tx⟩
        refine ⟨rfl, ?_⟩
        have him : i * anyC l + anyC l ≤ 3 * anyC l := by
          have z := Nat.mul_le_mul_right (anyC l) (show i + 1 ≤ 3 by omega)
          rw [Nat.succ_mul] at z
          exact z
        have hlc : anyC l ≤ 1000 := anyC_le (by omega)
        refine ⟨_, rfl, _, rfl, _, _, rfl, rfl, ?_⟩
        refine ⟨p, c, n + 2 + i * anyC l, (by show [V.ref p, V.int (((l + 1 : Nat) : Int) - 1)] = [V.ref p, V.int ((l : Nat) : Int)]; congr 3; omega), Pi, by omega, fun H3 x b3 P3 t3 f3 => ?_⟩
        refine ⟨xs, b3 _ _ Dp hD, ?_, but_own (bi.trans b3) nD, (P3.other Dp Dc).up (by rw [Nat.succ_mul]; omega), xs ++ [x], ?_, upd_same, fun y hy => ?_⟩
        · rw [lx]
          exact Nat.lt_of_lt_of_le hi (Nat.le_trans en (by decide))
        · rw [List.length_append, lx]
          rfl
        · rcases List.mem_append.mp hy with h | h
          · exact ((tx y h).but b3).updL (b3 _ _ Dp hD)
          · rw [List.mem_singleton.mp h]
            exact t3.1.updL (b3 _ _ Dp hD)
      · rintro H3 ⟨b3, P3, xs, lx, hD, tx⟩
        have hpn : n + 2 + e.toNat * anyC l ≤ n + anyC (l + 1) := by
          have := Nat.mul_le_mul_right (anyC l) en
          omega
        have bb : But p H H3 := (b1.trans b2).trans b3
        have fD : H D = Option.none := but_free (b1.trans b2) Dp nD
        refine ⟨_, rfl, rfl, _, rfl, ite2 (fun h11 => ?_) (fun h11 => ?_)⟩
        · refine ⟨_, rfl, k H3 (.ref D) bb (P3.up hpn) ⟨⟨.lst hD, fun z => Dp (V.ref.inj z)⟩, fun ys ey => ?_⟩ (fun a ea => by cases ea; exact fD)⟩
          rw [tupV_ref, hD] at ey
          cases ey
        · refine ⟨_, rfl, rfl, _, rfl, ite2 (fun h12 => ?_) (fun h12 => ?_)⟩
          · -- a dict
            refine ⟨_, rfl, D, _, rfl, .inl (SqL.of hD), ?_⟩
            refine ⟨(xs.length : Int), rfl, by omega, by omega, fun D2 nD2 => ?_⟩
            rw [show ((xs.length : Int)).toNat = xs.length by omega]
            refine lc_range (lo := 0) (n := xs.length) (fun i H' => Same H3 H' ∧ ∃ ps : List Addr, ps.length = i ∧ H' D2 = some (.lst (ps.map V.ref)) ∧ ∀ j q, ps[j]? = some q → ∃ v, xs[j]? = some v ∧ H' q = some (.tup [kV (keyA j), v]))
              ⟨same_new nD2, [], rfl, upd_same, (fun j q e => by simp at e)⟩ ?_ ?_
            · rintro i Hi hi ⟨Si, ps, lp, hD2, tp⟩
              refine ⟨rfl, ?_⟩
              have hi4 : i < 4 := by omega
              obtain ⟨v, hv⟩ : ∃ v, xs[i]? = some v := ⟨_, List.getElem?_eq_getElem hi⟩
              refine ⟨(by show 4 ≤ sizeLine; decide), fun q nq => ?_⟩
              have Sq := same_new (o := .lst keysA) nq
              refine ⟨_, rfl, q, keysA, _, _, rfl, rfl, SqL.of upd_same, (by rw [Int.zero_add]; exact atI_nat (keysA_at hi4)), ?_⟩
              refine ⟨_, rfl, _, rfl, D, xs, _, _, rfl, rfl, SqL.of (Sq _ _ (Si _ _ hD)), (by rw [Int.zero_add]; exact atI_nat hv), ?_⟩
              refine ⟨(by show 2 ≤ sizeLine; decide), fun r nr => ?_⟩
              have Sr := same_new (o := .tup [kV (keyA i), v]) nr
              have hD2' := Sr _ _ (Sq _ _ hD2)
              have nrD : r ≠ D2 := (ne_of_none (Sq _ _ hD2) nr).symm
              refine ⟨_, hD2', ?_, same_mut (fun b o e => Sr _ _ (Sq _ _ (Si _ _ e))) nD2, ps ++ [r], ?_, ?_, fun j q' ej => ?_⟩
              · rw [List.length_map, lp]
                exact Nat.lt_of_lt_of_le hi4 (by decide)
              · rw [List.length_append, lp]; rfl
              · rw [upd_same, List.map_append]; rfl
              · by_cases hj : j < ps.length
                · rw [List.getElem?_append_left hj] at ej
                  obtain ⟨v', h1, h2⟩ := tp j q' ej
                  refine ⟨v', h1, ?_⟩
                  rw [upd_ne (ne_of h2 hD2 (by intro z; cases z))]
                  exact Sr _ _ (Sq _ _ h2)
                · rw [List.getElem?_append_right (Nat.le_of_not_lt hj)] at ej
                  have hl := (List.getElem?_eq_some_iff.mp ej).1
                  rw [List.length_singleton] at hl
                  have eij : j = i := by omega
                  subst eij
                  rw [lp, Nat.sub_self] at ej
                  cases ej
                  refine ⟨v, hv, ?_⟩
                  rw [upd_ne nrD, upd_same]
            · rintro H4 ⟨S4, ps, lp, hD2, tp⟩
              refine ⟨D2, ps, (List.range xs.length).map fun j => (keyA j, xs.getD j .non), rfl, SqL.of hD2, ?_, fun q nq => ?_⟩
              · refine paired_of (by rw [List.length_map, List.length_range, lp]) fun j q kv e1 e2 => ?_
                obtain ⟨v, h1, h2⟩ := tp j q e1
                have hj := (List.getElem?_eq_some_iff.mp h1).1
                rw [List.getElem?_map, List.getElem?_range hj] at e2
                cases e2
                show SqT _ _ _ [kV (keyA j), xs.getD j V.non]
                rw [List.getD_eq_getElem?_getD, h1]
                exact SqT.of h2
              · refine k _ (.ref q) (but_new (bb.trans (Same.but S4)) nq) (((P3.same S4).same (same_new nq)).up hpn) ⟨⟨.dK upd_same, fun z => ?_⟩, fun ys ey => ?_⟩ (fun a ea => ?_)
                · exact (P3.same S4).neP nq (V.ref.inj z)
                · rw [tupV_ref, upd_same] at ey
                  cases ey
                · cases ea
                  exact but_free bb ((P3.same S4).neP nq) (S4.free nq)
          · -- a tuple
            refine ⟨_, rfl, D, xs, rfl, .inl ⟨SqL.of hD, fun q nq => ?_⟩⟩
            have Sq := same_new (o := .tup xs) nq
            refine k _ (.ref q) (but_new bb nq) ((P3.same Sq).up hpn) ⟨⟨.tup upd_same, fun z => P3.neP nq (V.ref.inj z)⟩, fun ys ey y hy => ?_⟩ (fun a ea => ?_)
            · rw [tupV_of (H := upd H3 q (.tup xs)) upd_same] at ey
              cases ey
              exact (tx y hy).but (Same.but Sq)
            · cases ea
              exact but_free bb (P3.neP nq) nq
end
end Stp
set_option Elab.async false
set_option linter.all false
set_option maxRecDepth 100000
set_option maxHeartbeats 4000000
namespace Stp
open PySem PyProof.Rows L2
abbrev sDrawn : Stmt := top 11
abbrev sEdited : Stmt := top 12
/-- a word stands at a -/
def WordAt (H : Hp) (a : Addr) (w : List Int) : Prop := H a = some (.tup (w.map V.int))
/-- a drawn word -/
def spDrawn : Sp := fun vs H Q _ => ∃ (p c : Addr) (n : Nat) (m : Int) (t : Nat), vs = [.ref p, .int m, .int t] ∧ PenAt H p c n ∧ n < 900000000000 ∧ 0 < m ∧ m < 1000 ∧ t ≤ 100 ∧
  ∀ (H' : Hp) (a : Addr) (w : List Int), But p H H' → PenAt H' p c (n + 1 + t) → a ≠ p → WordAt H' a w → w.length ≤ t → (∀ x ∈ w, 0 ≤ x ∧ x < m) → Q (.ref a) H'
/-- a word with one sign changed, taken out or put in -/
def spEdited : Sp := fun vs H Q _ => ∃ (p c a : Addr) (n : Nat) (m : Int) (w : List Int), vs = [.ref p, .ref a, .int m] ∧ PenAt H p c n ∧ n < 900000000000 ∧ 0 < m ∧ m < 1000 ∧ WordAt H a w ∧ a ≠ p ∧ w.length ≤ 100 ∧ (∀ x ∈ w, 0 ≤ x ∧ x < m) ∧
  ∀ (H' : Hp) (b : Addr) (v : List Int), But p H H' → PenAt H' p c (n + 3) → b ≠ p → WordAt H' b v → v.length ≤ w.length + 1 → (∀ x ∈ v, 0 ≤ x ∧ x < m) → Q (.ref b) H'
structure DrawnTxt (mg : Str → Option Value) : Prop where
  range : mg "range" = none
  len : mg "len" = none
  tuple : mg "tuple" = none
section
variable {P : Program} {w : World} {K : PySem.W.Frag} {mg : Str → Option Value} {base : Heap}
abbrev NDw : List Str := ["_law_pen_here", "_law_many", "_law_most", "_law_k"]
theorem scDrawn : FnScope NDw ["_law_pen_here", "_law_many", "_law_most"] (defScope sDrawn) := ⟨rfl, rfl, rfl, by decide +kernel, rfl, by decide +kernel, by decide +kernel⟩
theorem ok_drawn {f fN fD : Addr} {fd fdN fdD : FuncData} (F : Fun K "_law_drawn_word" "_law_drawn_word" sDrawn f fd) (T : DrawnTxt mg) (TP : PenTxt mg)
    (FN : Fun K "_law_next" "_law_next" sNext fN fdN) (gN : mg "_law_next" = some (.ref fN)) (bN : Binds K fdN ["_law_pen_here"] [])
    (FD : Fun K "_law_draw" "_law_draw" sDraw fD fdD) (gD : mg "_law_draw" = some (.ref fD)) (bD : Binds K fdD ["_law_pen_here", "_law_under"] []) : FnOk P w K mg base CX0 3 f fd ["_law_pen_here", "_law_many", "_law_most"] spDrawn := by
  have GD : FnOk P w K mg base CX0 2 fD fdD ["_law_pen_here", "_law_under"] spDraw := ok_draw FD TP FN gN bN
  refine F.ok scDrawn (fun vs H Q E h => ?_) (fun cdv A outer s H vs Q E hr h => ?_)
  · obtain ⟨p, c, n, m, t, rfl, _⟩ := h
    rfl
  · obtain ⟨p, c, n, m, t, rfl, PA, hn, hm0, hm1, ht, k⟩ := h
    have nd := scDrawn.nd
    refine ⟨_, pss_one (ps_ret (pe_callTy call_tuple_of (by rfl) T.tuple boot_tuple (pa_cons (pe_lc (own := [("_law_k", 3)]) (g := gName 3) (tt := tYes) rfl nd
      (pi_range1 rfl T.range (pa_cons (pe_call GD hr rfl gD FD.kp bD .nil pass0 (pa_cons (pv 0) (pa_cons (pe_op op_add (pv 2) pe_int) pa_nil))) pa_nil))
      (blkOk_by (N := NDw) (sc := defScope sDrawn) (by decide +kernel)) (fun _ _ _ _ _ => pg_name (i := 3) nd rfl (Or.inl rfl)) (fun _ _ _ _ _ => pts_nil)
      (fun _ _ _ _ _ => pe_call GD hr rfl gD FD.kp bD .nil pass0 (pa_cons (pv 0) (pa_cons (pv 1) pa_nil)))) pa_nil))), ?_⟩
    refine ⟨_, rfl, _, rfl, _, _, rfl, rfl, p, c, (t : Int) + 1, n, rfl, PA, by omega, by omega, by omega, fun H1 e b1 P1 e0 e1 => ?_⟩
    refine ⟨e, rfl, by omega, by omega, fun D nD => ?_⟩
    have Dp := P1.neP nD
    have Dc := P1.neC nD
    have en : e.toNat ≤ t := by omega
    refine lc_range (lo := 0) (n := e.toNat) (fun i H' => But p H1 H' ∧ PenAt H' p c (n + 1 + i) ∧ ∃ u : List Int, u.length = i ∧ H' D = some (.lst (u.map V.int)) ∧ ∀ x ∈ u, 0 ≤ x ∧ x < m)
      ⟨but_new (But.refl p H1) nD, P1.other Dp Dc, [], rfl, upd_same, (fun y hy => nomatch hy)⟩ ?_ ?_
    · rintro i Hi hi ⟨bi, Pi, u, lu, hD, tu⟩
      refine ⟨rfl, ?_⟩
      refine ⟨_, rfl, _, rfl, p, c, m, n + 1 + i, rfl, Pi, by omega, hm0, by omega, fun H3 x b3 P3 x0 x1 => ?_⟩
      refine ⟨_, b3 _ _ Dp hD, ?_, but_own (bi.trans b3) nD, P3.other Dp Dc, u ++ [x], ?_, ?_, fun y hy => ?_⟩
      · rw [List.length_map, lu]
        exact Nat.lt_of_lt_of_le hi (Nat.le_trans en (Nat.le_trans ht (by decide)))
      · rw [List.length_append, lu]; rfl
      · rw [upd_same, List.map_append]; rfl
      · rcases List.mem_append.mp hy with h | h
        · exact tu y h
        · rw [List.mem_singleton.mp h]
          exact ⟨x0, x1⟩
    · rintro H3 ⟨b3, P3, u, lu, hD, tu⟩
      refine ⟨D, _, rfl, .inl ⟨SqL.of hD, fun q nq => ?_⟩⟩
      exact k _ q u (but_new (b1.trans b3) nq) ((P3.same (same_new nq)).up (by omega)) (P3.neP nq) upd_same (by omega) tu
abbrev NEd : List Str := ["_law_pen_here", "_law_one", "_law_many", "_law_spot", "_law_way_no"]
theorem scEdited : FnScope NEd ["_law_pen_here", "_law_one", "_law_many"] (defScope sEdited) := ⟨rfl, rfl, rfl, by decide +kernel, rfl, by decide +kernel, by decide +kernel⟩
theorem shp_tup (cs : List Int) : Shp 1 (.tuple (cs.map PyData.int)) := Shp.tuple fun d m => by
  obtain ⟨i, _, rfl⟩ := List.mem_map.mp m
  exact Shp.int i
theorem eqv_tup_nil (cs : List Int) : PyData.eqv (.tuple (cs.map PyData.int)) (.tuple []) = cs.isEmpty := by
  cases cs <;> rfl
theorem ok_edited {f fN fD : Addr} {fd fdN fdD : FuncData} (F : Fun K "_law_edited" "_law_edited" sEdited f fd) (T : DrawnTxt mg) (TP : PenTxt mg)
    (FN : Fun K "_law_next" "_law_next" sNext fN fdN) (gN : mg "_law_next" = some (.ref fN)) (bN : Binds K fdN ["_law_pen_here"] [])
    (FD : Fun K "_law_draw" "_law_draw" sDraw fD fdD) (gD : mg "_law_draw" = some (.ref fD)) (bD : Binds K fdD ["_law_pen_here", "_law_under"] []) : FnOk P w K mg base CX0 3 f fd ["_law_pen_here", "_law_one", "_law_many"] spEdited := by
  have GD : FnOk P w K mg base CX0 2 fD fdD ["_law_pen_here", "_law_under"] spDraw := ok_draw FD TP FN gN bN
  refine F.ok scEdited (fun vs H Q E h => ?_) (fun cdv A outer s H vs Q E hr h => ?_)
  · obtain ⟨p, c, a, n, m, u, rfl, _⟩ := h
    rfl
  · obtain ⟨p, c, a, n, m, u, rfl, PA, hn, hm0, hm1, ha, nap, hu, tu, k⟩ := h
    have nd := scEdited.nd
    refine ⟨_,
      pss_cons (ps_par (i := 3) (j := 4) (by rfl) nd rfl rfl (by decide) rfl rfl (pa_cons (pe_call GD hr rfl gD FD.kp bD .nil pass0 (pa_cons (pv 0) (pa_cons (pe_op op_add (pe_callB call_len_seq (by rfl) T.len PySem.boot_len (pa_cons (pv 1) pa_nil)) pe_int) pa_nil)))
        (pa_cons (pe_call GD hr rfl gD FD.kp bD .nil pass0 (pa_cons (pv 0) (pa_cons pe_int pa_nil))) pa_nil)) (by rfl))
      (pss_cons (ps_if (PW.pt (pw_or (pt_cmpR op_eq (pv 4) pe_int (nomark _)) (pw_or1 (pt_cmpR (op_eqD hr.units) (pv 1) (pe_tup pa_nil) (nomark _)))))
        (pss_one (ps_ret (pe_op op_catA (pe_op op_catA (pe_slice sl_tupA (pv 1) po_none (po_some (pv 3))) (pe_tup (pa_cons (pe_call GD hr rfl gD FD.kp bD .nil pass0 (pa_cons (pv 0) (pa_cons (pv 2) pa_nil))) pa_nil))) (pe_slice sl_tupA (pv 1) (po_some (pv 3)) po_none)))) pss_nil)
      (pss_cons (ps_set (i := 3) nd rfl (Or.inl rfl) (pe_ifExp (pt_cmpR op_lt (pv 3) (pe_callB call_len_seq (by rfl) T.len PySem.boot_len (pa_cons (pv 1) pa_nil)) (nomark _)) (pv 3) pe_int))
      (pss_one (ps_ret (pe_op op_catA (pe_op op_catA (pe_slice sl_tupA (pv 1) po_none (po_some (pv 3))) (pe_ifExp (pt_cmpR op_eq (pv 4) pe_int (nomark _)) (pe_tup (pa_cons (pe_call GD hr rfl gD FD.kp bD .nil pass0 (pa_cons (pv 0) (pa_cons (pv 2) pa_nil))) pa_nil)) (pe_tup pa_nil))) (pe_slice sl_tupA (pv 1) (po_some (pe_op op_add (pv 3) pe_int)) po_none)))))), ?_⟩
    have lu : (u.map V.int).length = u.length := List.length_map ..
    refine ⟨_, rfl, _, rfl, a, _, rfl, .inr (SqT.of ha), _, _, rfl, rfl, p, c, _, n, rfl, PA, by omega, by rw [lu]; omega, by rw [lu]; omega, fun H1 e b1 P1 e0 e1 => ?_⟩
    rw [lu] at e1
    refine ⟨_, rfl, p, c, 3, n + 1, rfl, P1, by omega, by decide, by decide, fun H2 d b2 P2 d0 d1 => ?_⟩
    have ha2 : WordAt H2 a u := b2 _ _ nap (b1 _ _ nap ha)
    have bb : But p H H2 := b1.trans b2
    obtain ⟨j, rfl⟩ := Int.eq_ofNat_of_zero_le e0
    have hj : j ≤ u.length := by omega
    refine ⟨_, _, rfl, ?_⟩
    have mem_take : ∀ {i : Nat} {x : Int}, x ∈ u.take i → 0 ≤ x ∧ x < m := fun h => tu _ (List.mem_of_mem_take h)
    have mem_drop : ∀ {i : Nat} {x : Int}, x ∈ u.drop i → 0 ≤ x ∧ x < m := fun h => tu _ (List.mem_of_mem_drop h)
    have nex : ∀ {H' : Hp} {b : Addr} {xs : List V} {i : Nat}, PenAt H' p c i → H' b = some (.tup xs) → b ≠ p := fun P' hb z => by
      obtain ⟨cs, i', r, hP, _⟩ := P'
      rw [z, hP.pen] at hb
      cases hb
    -- one sign put in at j
    have put : ∀ (H3 : Hp) (σ : L2.St) (D : Ends), But p H H3 → PenAt H3 p c (n + 2) → WordAt H3 a u → σ = [some (.ref p), some (.ref a), some (.int m), some (.int (j : Int)), some (.int d)] → D.rt = Q →
        tRet (tOp (rCatA K) (tOp (rCatA K) (tSl (rSlA K) (tVar 1) tNoPart (tPart (tVar 3))) (tTup (tCons (tCall spDraw [] E0 (tCons (tVar 0) (tCons (tVar 2) tNil))) tNil))) (tSl (rSlA K) (tVar 1) (tPart (tVar 3)) tNoPart)) D σ H3 := by
      intro H3 σ D b3 P3 h3 eσ eD
      subst eσ
      refine ⟨_, rfl, _, rfl, _, rfl, ?_⟩
      refine slA_any h3 fun H4 x4 S4 h4 => ?_
      rw [cut_to] at h4
      have P4 := P3.same S4
      refine ⟨_, rfl, _, rfl, p, c, m, n + 2, rfl, P4, by omega, hm0, by omega, fun H5 x b5 P5 x0 x1 => ?_⟩
      refine ⟨(by show 1 ≤ sizeLine; decide), fun q nq => ?_⟩
      have Sq := same_new (o := .tup [.int x]) nq
      have h5 := Sq _ _ (b5 _ _ (nex P4 h4) h4)
      refine catA_any h5 upd_same (by rw [List.length_take, lu, List.length_singleton]; omega) fun H6 x6 S6 h6 => ?_
      have ha6 : WordAt H6 a u := S6 _ _ (Sq _ _ (b5 _ _ nap (S4 _ _ h3)))
      refine ⟨_, rfl, _, rfl, _, rfl, ?_⟩
      dsimp only [tNoPart]
      refine slA_any ha6 fun H7 x7 S7 h7 => ?_
      rw [cut_from] at h7
      refine catA_any (S7 _ _ h6) h7 (by rw [List.length_append, List.length_take, List.length_drop, lu, List.length_singleton]; omega) fun H8 x8 S8 h8 => ?_
      have P8 : PenAt H8 p c (n + 3) := ((P5.same Sq).same S6).same (fun b o e => S8 _ _ (S7 _ _ e))
      rw [eD]
      refine k H8 x8 (u.take j ++ [x] ++ u.drop j) (((b3.trans (Same.but S4)).trans b5).trans (Same.but (fun b o e => S8 _ _ (S7 _ _ (S6 _ _ (Sq _ _ e)))))) P8 (nex P8 h8) ?_ ?_ fun y hy => ?_
      · show H8 x8 = _
        rw [h8, List.map_append, List.map_append, List.map_take, List.map_drop]
        rfl
      · rw [List.length_append, List.length_append, List.length_take, List.length_drop, List.length_singleton]
        omega
      · rcases List.mem_append.mp hy with h | h
        · rcases List.mem_append.mp h with h | h
          · exact mem_take h
          · rw [List.mem_singleton.mp h]
            exact ⟨x0, x1⟩
        · exact mem_drop h
    refine ⟨_, rfl, rfl, _, rfl, ite2 (fun h0 => ?_) (fun h0 => ?_)⟩
    · exact put H2 _ _ bb P2 ha2 rfl rfl
    · refine ⟨_, rfl, Nat.zero_le _, fun q nq => ?_⟩
      have Sq := same_new (o := .tup []) nq
      have haq : WordAt (upd H2 q (.tup [])) a u := Sq _ _ ha2
      refine ⟨_, _, .tup (SqT.of haq) (dp_ints u), .tup (SqT.of upd_same) .nil, (shp_tup u).ok (by decide), (Shp.tuple (n := 0) (fun d m => by cases m)).ok (by decide), _, rfl, ?_⟩
      rw [eqv_tup_nil]
      have bq : But p H (upd H2 q (.tup [])) := but_new bb nq
      have Pq : PenAt (upd H2 q (.tup [])) p c (n + 2) := P2.same Sq
      refine ite2 (fun h1 => ?_) (fun h1 => ?_)
      · exact put _ _ _ bq Pq haq rfl rfl
      · have hne : 0 < u.length := by
          cases u with
          | nil => exact absurd rfl h1
          | cons y l => simp
        generalize eHq : upd H2 q (.tup []) = H3 at haq bq Pq
        refine ⟨_, rfl, _, rfl, a, _, rfl, .inr (SqT.of haq), _, _, rfl, rfl, _, rfl, ?_⟩
        -- the spot, within the word
        have fin : ∀ (i : Nat) (σ : L2.St) (D : Ends), i < u.length → σ = [some (.ref p), some (.ref a), some (.int m), some (.int (i : Int)), some (.int d)] → D.rt = Q →
            tRet (tOp (rCatA K) (tOp (rCatA K) (tSl (rSlA K) (tVar 1) tNoPart (tPart (tVar 3))) (tIf (tTest (tOp rEq (tVar 4) (tC (.int 1)))) (tTup (tCons (tCall spDraw [] E0 (tCons (tVar 0) (tCons (tVar 2) tNil))) tNil)) (tTup tNil))) (tSl (rSlA K) (tVar 1) (tPart (tOp (rI0 fun i j => V.int (i + j)) (tVar 3) (tC (.int 1)))) tNoPart)) D σ H3 := by
          intro i σ D hi eσ eD
          subst eσ
          refine ⟨_, rfl, _, rfl, _, rfl, ?_⟩
          refine slA_any haq fun H4 x4 S4 h4 => ?_
          rw [cut_to] at h4
          have P4 := Pq.same S4
          have last : ∀ (H5 : Hp) (q5 : Addr) (v5 : List Int) (k5 : Nat), But p H H5 → PenAt H5 p c k5 → k5 ≤ n + 3 → WordAt H5 a u → H5 x4 = some (.tup ((u.map V.int).take i)) → WordAt H5 q5 v5 → v5.length ≤ 1 → (∀ x ∈ v5, 0 ≤ x ∧ x < m) →
              rCatA K (.ref x4) (.ref q5) H5 fun x H6 => tSl (rSlA K) (tVar 1) (tPart (tOp (rI0 fun i j => V.int (i + j)) (tVar 3) (tC (.int 1)))) tNoPart [some (.ref p), some (.ref a), some (.int m), some (.int (i : Int)), some (.int d)] H6 fun y H7 => rCatA K x y H7 D.rt := by
            intro H5 q5 v5 k5 b5 P5 hk5 ha5 h5 hq5 l5 t5
            refine catA_any h5 hq5 (by rw [List.length_take, lu, List.length_map]; omega) fun H6 x6 S6 h6 => ?_
            refine ⟨_, rfl, _, rfl, _, _, rfl, rfl, _, rfl, ?_⟩
            dsimp only [tNoPart]
            refine slA_any (S6 _ _ ha5) fun H7 x7 S7 h7 => ?_
            rw [show ((i : Nat) : Int) + 1 = ((i + 1 : Nat) : Int) by omega, cut_from] at h7
            refine catA_any (S7 _ _ h6) h7 (by rw [List.length_append, List.length_take, List.length_drop, lu, List.length_map]; omega) fun H8 x8 S8 h8 => ?_
            have P8 : PenAt H8 p c (n + 3) := (P5.up hk5).same (fun b o e => S8 _ _ (S7 _ _ (S6 _ _ e)))
            rw [eD]
            refine k H8 x8 (u.take i ++ v5 ++ u.drop (i + 1)) (b5.trans (Same.but (fun b o e => S8 _ _ (S7 _ _ (S6 _ _ e))))) P8 (nex P8 h8) ?_ ?_ fun y hy => ?_
            · show H8 x8 = _
              rw [h8, List.map_append, List.map_append, List.map_take, List.map_drop]
            · rw [List.length_append, List.length_append, List.length_take, List.length_drop]
              omega
            · rcases List.mem_append.mp hy with h | h
              · rcases List.mem_append.mp h with h | h
                · exact mem_take h
                · exact t5 y h
              · exact mem_drop h
          refine ⟨_, rfl, rfl, _, rfl, ite2 (fun h2 => ?_) (fun h2 => ?_)⟩
          · refine ⟨_, rfl, _, rfl, p, c, m, n + 2, rfl, P4, by omega, hm0, by omega, fun H5 x b5 P5 x0 x1 => ?_⟩
            refine ⟨(by show 1 ≤ sizeLine; decide), fun q5 nq5 => ?_⟩
            have S5 := same_new (o := .tup [.int x]) nq5
            exact last _ q5 [x] (n + 3) (but_new ((bq.trans (Same.but S4)).trans b5) nq5) (P5.same S5) (Nat.le_refl _) (S5 _ _ (b5 _ _ nap (S4 _ _ haq))) (S5 _ _ (b5 _ _ (nex P4 h4) h4)) upd_same (Nat.le_refl _) (fun y hy => by rw [List.mem_singleton.mp hy]; exact ⟨x0, x1⟩)
          · refine ⟨Nat.zero_le _, fun q5 nq5 => ?_⟩
            have S5 := same_new (o := .tup []) nq5
            exact last _ q5 [] (n + 2) (but_new (bq.trans (Same.but S4)) nq5) (P4.same S5) (by omega) (S5 _ _ (S4 _ _ haq)) (S5 _ _ h4) upd_same (Nat.zero_le _) (fun y hy => nomatch hy)
        refine ite2 (fun h2 => ?_) (fun h2 => ?_)
        · have hi := of_decide_eq_true h2
          rw [lu] at hi
          exact ⟨_, rfl, fin j _ _ (by omega) rfl rfl⟩
        · exact fin 0 _ _ hne rfl rfl
end
end Stp
set_option Elab.async false
set_option linter.all false
set_option maxRecDepth 100000
set_option maxHeartbeats 8000000
namespace Stp
open PySem PyProof.Rows L2
theorem eqv_ints : ∀ u v : List Int, PyData.eqvAll (u.map PyData.int) (v.map PyData.int) = decide (u = v)
  | [], [] => by simp [PyData.eqvAll]
  | [], y :: v => by simp [PyData.eqvAll]
  | x :: u, [] => by simp [PyData.eqvAll]
  | x :: u, y :: v => by
    rw [List.map_cons, List.map_cons, PyData.eqvAll, eqv_ints u v, PyData.eqv]
    by_cases h1 : x = y
    · subst h1
      by_cases h2 : u = v
      · subst h2; simp
      · simp [h2]
    · simp [h1]
theorem eqv_tups (u v : List Int) : PyData.eqv (.tuple (u.map PyData.int)) (.tuple (v.map PyData.int)) = decide (u = v) := by
  rw [PyData.eqv]
  exact eqv_ints u v
/-- what the law reckons of a thing -/
def good1 (H : Hp) (x : V) : Bool := match tupV H x with
  | some xs => decide (xs.length ≤ 12) && xs.all fun y => isIntV y || isBlV y
  | none => false
theorem good_is (n : Int) (xs : List V) (h : (xs.all fun y => isIntV y || isBlV y) = true) : (xs.all fun y => !isBlV y && belowV n y) = xs.all (belowV n) := by
  induction xs with
  | nil => rfl
  | cons y l ih =>
    rw [List.all_cons] at h
    obtain ⟨h1, h2⟩ := Bool.and_eq_true_iff.mp h
    rw [List.all_cons, List.all_cons, ih h2]
    cases y <;> first | rfl | (exfalso; exact Bool.false_ne_true h1)
theorem below_int (n : Int) (xs : List V) (h : xs.all (belowV n) = true) : (xs.all fun y => isIntV y || isBlV y) = true := by
  rw [List.all_eq_true] at h ⊢
  intro y hy
  have z := h y hy
  cases y <;> first | rfl | (exfalso; exact Bool.false_ne_true z)
theorem ThTP.but {p : Addr} {H H' : Hp} {x : V} (t : ThTP p H x) (b : But p H H') : ThTP p H' x := by
  refine ⟨t.1.but b, fun xs e y hy => ?_⟩
  have e' : tupV H x = some xs := by
    obtain ⟨a, rfl, ha⟩ := tupV_at e
    have np : a ≠ p := fun z => t.1.2 (by rw [z])
    cases t.1.1 with
    | lst h => rw [b _ _ np h] at ha; cases ha
    | tup h => rw [b _ _ np h] at ha; cases ha; exact tupV_of h
    | dK h => rw [b _ _ np h] at ha; cases ha
  exact (t.2 xs e' y hy).but b
theorem ThT.same {H H' : Hp} {x : V} (t : ThT H x) (s : Same H H') : ThT H' x :=
  ⟨t.1.same s, fun xs e y hy => (t.2 xs (by rw [← t.1.tupV_eq s]; exact e) y hy).same s⟩
theorem if_c {c : Prop} [Decidable c] {x y : V} {σ : L2.St} {H : Hp} {k : VK} (h : ∀ z, (z = x ∨ z = y) → k z H) : if c then tC x σ H k else tC y σ H k := by
  by_cases e : c
  · rw [if_pos e]; exact h x (.inl rfl)
  · rw [if_neg e]; exact h y (.inr rfl)
theorem rd_dist {σ : L2.St} {H : Hp} {k : VK} {i j : Nat} {a b : Addr} {u v : List Int} (hi : σ[i]? = some (some (.ref a))) (hj : σ[j]? = some (some (.ref b))) (wa : WordAt H a u) (wb : WordAt H b v) (lu : u.length ≤ 100) (lv : v.length ≤ 100)
    (q : ∀ H', Same H H' → k (.int (dp u v)) H') : tCall spDistance [] E0 (tCons (tVar i) (tCons (tVar j) tNil)) σ H k :=
  ⟨_, hi, _, hj, a, b, u, v, rfl, wa, wb, Nat.le_trans lu (by decide), Nat.le_trans lv (by decide), q⟩
section
variable {K : PySem.W.Frag} {H : Hp} {D : Ends} {x : V} {t2 : TS} {s0 s1 s2 s4 s5 s6 s7 s8 s9 s10 s12 s13 : Option V} {m : Int}
/-- _law_good = isinstance(thing, tuple) and len(thing) <= 12 and all([isinstance(k, int) for k in thing]) -/
theorem rd_good1 (t : ThT H x) (q : ∀ H', Same H H' → t2 D [s0, s1, s2, some (.int m), s4, s5, s6, s7, s8, s9, s10, some x, some (.bl (good1 H x)), s13] H') :
    tSeq (tAsg (tAndV (tCB (rIsi K) (tCons (tVar 11) (tCons (tC (.ty "tuple")) tNil))) (tAndV (tOp (rI0 fun i j => V.bl (decide (i ≤ j))) (tCB (rLenK K) (tCons (tVar 11) tNil)) (tC (.int 12)))
      (tCB (rAll K) (tCons (tLc (iTup K (tVar 11)) (gName 6) tYes (tCB (rIsi K) (tCons (tVar 6) (tCons (tC (.ty "int")) tNil))) [6]) tNil)))) (gName 12)) t2 D
      [s0, s1, s2, some (.int m), s4, s5, s6, s7, s8, s9, s10, some x, s12, s13] H := by
  obtain ⟨th, ti⟩ := t
  obtain ⟨t1, y1, k1⟩ := th.isTup (K := K)
  refine ⟨_, rfl, _, _, _, _, _, rfl, .ty _, y1, k1, _, rfl, ?_⟩
  cases et : tupV H x with
  | none =>
    have e : good1 H x = false := by unfold good1; rw [et]
    rw [e] at q
    exact q H (Same.refl H)
  | some xs =>
    obtain ⟨a, rfl, ha⟩ := tupV_at et
    have e : good1 H (.ref a) = (decide (xs.length ≤ 12) && xs.all fun y => isIntV y || isBlV y) := by unfold good1; rw [et]
    rw [e] at q
    refine ⟨_, rfl, a, xs, rfl, .inr (SqT.of ha), _, _, rfl, rfl, _, rfl, ?_⟩
    have ed : decide ((xs.length : Int) ≤ 12) = decide (xs.length ≤ 12) := by
      by_cases h : xs.length ≤ 12
      · rw [decide_eq_true h, decide_eq_true (by omega)]
      · rw [decide_eq_false h, decide_eq_false (by omega)]
    rw [ed]
    refine ite2 (fun h => ?_) (fun h => ?_)
    · rw [h, Bool.true_and] at q
      have hl : xs.length ≤ 12 := of_decide_eq_true h
      refine ⟨_, rfl, a, rfl, ⟨_, SqT.of ha⟩, fun L nL => lc_tup (K := K) (a := a) (xs := xs) (fun i Hm => Same H Hm ∧ Hm L = some (.lst (((xs.take i).map fun y => isIntV y || isBlV y).map V.bl))) ⟨same_new nL, upd_same⟩ (fun i H' _ p => SqT.of (p.1 _ _ ha)) ?_ ?_⟩
      · rintro i y Hm hi ⟨Sm, hD⟩
        have hy : y ∈ xs := List.mem_of_getElem? hi
        obtain ⟨t2, y2, k2⟩ := ((ti _ et y hy).same Sm).isInt (K := K)
        refine ⟨rfl, ?_⟩
        refine ⟨_, rfl, _, _, _, _, _, rfl, .ty _, y2, k2, _, hD, ?_, same_mut Sm nL, ?_⟩
        · rw [List.length_map, List.length_map, List.length_take]
          exact Nat.lt_of_le_of_lt (Nat.le_trans (Nat.min_le_right _ _) hl) (by decide)
        · rw [upd_same, take_more hi, List.map_append, List.map_append]
          rfl
      · rintro Hm ⟨Sm, hD⟩
        rw [List.take_length] at hD
        refine ⟨L, _, rfl, SqL.of hD, ?_⟩
        have ea : (xs.map fun y => isIntV y || isBlV y).all id = xs.all fun y => isIntV y || isBlV y := by rw [List.all_map]; rfl
        rw [ea]
        exact q Hm Sm
    · rw [Bool.eq_false_iff.mpr h, Bool.false_and] at q
      exact q H (Same.refl H)
/-- _law_good = _law_good and all([not isinstance(k, bool) and 0 <= k < many for k in thing]) -/
theorem rd_good2 (t : ThT H x) (q : ∀ H', Same H H' → t2 D [s0, s1, s2, some (.int m), s4, s5, s6, s7, s8, s9, s10, some x, some (.bl (isWordB H m x)), s13] H') :
    tSeq (tAsg (tAndV (tVar 12) (tCB (rAll K) (tCons (tLc (iTup K (tVar 11)) (gName 6) tYes (tAndV (tNotV (tCB (rIsi K) (tCons (tVar 6) (tCons (tC (.ty "bool")) tNil)))) (tChain (rI0 fun i j => V.bl (decide (i ≤ j))) (rI0 fun i j => V.bl (decide (i < j))) (tC (.int 0)) (tVar 6) (tVar 3))) [6]) tNil))) (gName 12)) t2 D
      [s0, s1, s2, some (.int m), s4, s5, s6, s7, s8, s9, s10, some x, some (.bl (good1 H x)), s13] H := by
  obtain ⟨th, ti⟩ := t
  refine ⟨_, rfl, _, rfl, ?_⟩
  cases et : tupV H x with
  | none =>
    have e : good1 H x = false := by unfold good1; rw [et]
    have e2 : isWordB H m x = false := by unfold isWordB; rw [et]
    rw [e2] at q
    rw [e]
    exact q H (Same.refl H)
  | some xs =>
    obtain ⟨a, rfl, ha⟩ := tupV_at et
    have e : good1 H (.ref a) = (decide (xs.length ≤ 12) && xs.all fun y => isIntV y || isBlV y) := by unfold good1; rw [et]
    have e2 : isWordB H m (.ref a) = (decide (xs.length ≤ 12) && xs.all (belowV m)) := by unfold isWordB; rw [et]
    rw [e]
    rw [e2] at q
    refine ite2 (fun h => ?_) (fun h => ?_)
    · obtain ⟨h1, h2⟩ := Bool.and_eq_true_iff.mp h
      rw [h1, Bool.true_and, ← good_is m xs h2] at q
      have hl : xs.length ≤ 12 := of_decide_eq_true h1
      refine ⟨_, rfl, a, rfl, ⟨_, SqT.of ha⟩, fun L nL => lc_tup (K := K) (a := a) (xs := xs) (fun i Hm => Same H Hm ∧ Hm L = some (.lst (((xs.take i).map fun y => !isBlV y && belowV m y).map V.bl))) ⟨same_new nL, upd_same⟩ (fun i H' _ p => SqT.of (p.1 _ _ ha)) ?_ ?_⟩
      · rintro i y Hm hi ⟨Sm, hD⟩
        have hy : y ∈ xs := List.mem_of_getElem? hi
        obtain ⟨t2, y2, k2⟩ := ((ti _ et y hy).same Sm).isBool (K := K)
        have hyi := List.all_eq_true.mp h2 y hy
        have fin : ∀ b : Bool, b = (!isBlV y && belowV m y) → ∃ acc, Hm L = some (.lst acc) ∧ acc.length < sizeLine ∧ (Same H (upd Hm L (.lst (acc ++ [V.bl b]))) ∧ upd Hm L (.lst (acc ++ [V.bl b])) L = some (.lst (((xs.take (i + 1)).map fun y => !isBlV y && belowV m y).map V.bl))) := fun b eb => by
          refine ⟨_, hD, ?_, same_mut Sm nL, ?_⟩
          · rw [List.length_map, List.length_map, List.length_take]
            exact Nat.lt_of_le_of_lt (Nat.le_trans (Nat.min_le_right _ _) hl) (by decide)
          · rw [upd_same, take_more hi, List.map_append, List.map_append, eb]
            rfl
        refine ⟨rfl, ?_⟩
        refine ⟨_, rfl, _, _, _, _, _, rfl, .ty _, y2, k2, _, rfl, _, rfl, ?_⟩
        cases y with
        | bl b => exact if_f (fun z => Bool.false_ne_true z) (fin false rfl)
        | int z =>
          refine if_t rfl ?_
          refine ⟨_, rfl, _, _, rfl, rfl, _, rfl, ?_⟩
          refine ite2 (fun h3 => ?_) (fun h3 => ?_)
          · refine ⟨_, rfl, _, _, rfl, rfl, fin _ ?_⟩
            show decide (z < m) = (true && (decide (0 ≤ z) && decide (z < m)))
            rw [h3]
            rfl
          · refine fin false ?_
            show false = (true && (decide (0 ≤ z) && decide (z < m)))
            rw [Bool.eq_false_iff.mpr h3]
            rfl
        | _ => exact absurd hyi (by intro z; cases z)
      · rintro Hm ⟨Sm, hD⟩
        rw [List.take_length] at hD
        refine ⟨L, _, rfl, SqL.of hD, ?_⟩
        have ea : (xs.map fun y => !isBlV y && belowV m y).all id = xs.all fun y => !isBlV y && belowV m y := by rw [List.all_map]; rfl
        rw [ea]
        exact q Hm Sm
    · have e3 : (decide (xs.length ≤ 12) && xs.all (belowV m)) = false := by
        refine Bool.eq_false_iff.mpr fun z => h ?_
        obtain ⟨z1, z2⟩ := Bool.and_eq_true_iff.mp z
        rw [z1, Bool.true_and]
        exact below_int m xs z2
      rw [e3] at q
      exact q H (Same.refl H)
end
end Stp
set_option Elab.async false
set_option linter.all false
set_option maxRecDepth 100000
set_option maxHeartbeats 8000000
namespace Stp
open PySem PyProof.Rows L2
abbrev sLaw : Stmt := top 14
def spLaw (K : PySem.W.Frag) : Sp := fun vs H Q _ => ∃ (a : Addr) (ns : List Int), vs = [.ref a] ∧ SqL K H a (ns.map V.int) ∧ ∀ H', Q (.bl true) H'
structure LawTxt (mg : Str → Option Value) : Prop where
  range : mg "range" = none
  len : mg "len" = none
  list : mg "list" = none
  isi : mg "isinstance" = none
  tuple : mg "tuple" = none
  all : mg "all" = none
  int : mg "int" = none
  bool : mg "bool" = none
  repr : mg "repr" = none
section
variable {P : Program} {w : World} {K : PySem.W.Frag} {mg : Str → Option Value} {base : Heap}
abbrev NLa : List Str := ["_law_script", "_law_pen_here", "_law_turn", "_law_many", "_law_one", "_law_two", "_law_k", "_law_three", "_law_odd", "_law_spot", "_law_things", "_law_thing", "_law_good", "_law_some"]
theorem scLaw : FnScope NLa ["_law_script"] (defScope sLaw) := ⟨rfl, rfl, rfl, by decide +kernel, rfl, by decide +kernel, by decide +kernel⟩
theorem ok_law {f fP fN fD fI fB fW fDi fA fDw fE fF : Addr} {fd fdP fdN fdD fdI fdB fdW fdDi fdA fdDw fdE fdF : FuncData} (F : Fun K "law" "law" sLaw f fd) (T : LawTxt mg) (TP : PenTxt mg) (TW : WordTxt mg) (TD : DistTxt mg) (TF : FarTxt mg) (TA : AnyTxt mg) (TR : DrawnTxt mg)
    (FP : Fun K "_law_pen" "_law_pen" sPen fP fdP) (gP : mg "_law_pen" = some (.ref fP)) (bP : Binds K fdP ["_law_script"] [])
    (FN : Fun K "_law_next" "_law_next" sNext fN fdN) (gN : mg "_law_next" = some (.ref fN)) (bN : Binds K fdN ["_law_pen_here"] [])
    (FD : Fun K "_law_draw" "_law_draw" sDraw fD fdD) (gD : mg "_law_draw" = some (.ref fD)) (bD : Binds K fdD ["_law_pen_here", "_law_under"] [])
    (FI : Fun K "is_integer" "is_integer" sIsInteger fI fdI) (gI : mg "is_integer" = some (.ref fI)) (bI : Binds K fdI ["thing"] [])
    (FB : Fun K "is_below" "is_below" sIsBelow fB fdB) (gB : mg "is_below" = some (.ref fB)) (bB : Binds K fdB ["thing", "count"] [])
    (FW : Fun K "is_word" "is_word" sIsWord fW fdW) (gW : mg "is_word" = some (.ref fW)) (bW : Binds K fdW ["thing", "signs"] [])
    (FDi : Fun K "distance" "distance" sDistance fDi fdDi) (gDi : mg "distance" = some (.ref fDi)) (bDi : Binds K fdDi ["one", "other"] [])
    (FA : Fun K "_law_any" "_law_any" sAny fA fdA) (gA : mg "_law_any" = some (.ref fA)) (bA : Binds K fdA ["_law_pen_here", "_law_levels"] [])
    (FDw : Fun K "_law_drawn_word" "_law_drawn_word" sDrawn fDw fdDw) (gDw : mg "_law_drawn_word" = some (.ref fDw)) (bDw : Binds K fdDw ["_law_pen_here", "_law_many", "_law_most"] [])
    (FE : Fun K "_law_edited" "_law_edited" sEdited fE fdE) (gE : mg "_law_edited" = some (.ref fE)) (bE : Binds K fdE ["_law_pen_here", "_law_one", "_law_many"] [])
    (FF : Fun K "_law_far" "_law_far" sFar fF fdF) (gF : mg "_law_far" = some (.ref fF)) (bF : Binds K fdF ["_law_one", "_law_two"] []) :
    FnOk P w K mg base CX0 6 f fd ["_law_script"] (spLaw K) := by
  have GP : FnOk P w K mg base CX0 1 fP fdP ["_law_script"] (spPen K) := ok_pen FP TP
  have GD : FnOk P w K mg base CX0 2 fD fdD ["_law_pen_here", "_law_under"] spDraw := ok_draw FD TP FN gN bN
  have GW : FnOk P w K mg base CX0 3 fW fdW ["thing", "signs"] spIsWord := ok_is_word FW TW FI gI bI FB gB bB
  have GDi : FnOk P w K mg base CX0 1 fDi fdDi ["one", "other"] spDistance := ok_distance FDi TD
  have GF : FnOk P w K mg base CX0 1 fF fdF ["_law_one", "_law_two"] spDistance := ok_far FF TF
  have GDw : FnOk P w K mg base CX0 3 fDw fdDw ["_law_pen_here", "_law_many", "_law_most"] spDrawn := ok_drawn FDw TR TP FN gN bN FD gD bD
  have GE : FnOk P w K mg base CX0 3 fE fdE ["_law_pen_here", "_law_one", "_law_many"] spEdited := ok_edited FE TR TP FN gN bN FD gD bD
  have GA0 : FnOk P w K mg base CX0 3 fA fdA ["_law_pen_here", "_law_levels"] (spAny 0) := ok_any0 FA TA TP FN gN bN FD gD bD
  have GA1 : FnOk P w K mg base CX0 4 fA fdA ["_law_pen_here", "_law_levels"] (spAny 1) := ok_anyS FA gA bA TA TP FN gN bN FD gD bD (by decide) GA0
  have GA : FnOk P w K mg base CX0 5 fA fdA ["_law_pen_here", "_law_levels"] (spAny 2) := ok_anyS FA gA bA TA TP FN gN bN FD gD bD (by decide) GA1
  refine F.ok scLaw (fun vs H Q E h => ?_) (fun cdv A outer s H vs Q E hr h => ?_)
  · obtain ⟨a, ns, rfl, _⟩ := h
    rfl
  · obtain ⟨a, ns, rfl, hS, k⟩ := h
    have nd := scLaw.nd
    have hr1 : Room 1 _ := hr.mono (by decide)
    have hr2 : Room 2 _ := hr.mono (by decide)
    have hr3 : Room 3 _ := hr.mono (by decide)
    refine ⟨_,
      (pss_cons (ps_set (i := 1) nd rfl (Or.inl rfl) (pe_call GP hr1 rfl gP FP.kp bP .nil pass0 (pa_cons (pv 0) pa_nil)))
      (pss_cons (ps_for PassesOwn.never rfl (pi_range1 rfl T.range (pa_cons pe_int pa_nil)) (pg_name (i := 2) nd rfl (Or.inl rfl))
      (pss_cons (ps_set (i := 3) nd rfl (Or.inr rfl) (pe_op op_add pe_int (pe_call GD hr2 rfl gD FD.kp bD .nil pass0 (pa_cons (pv 1) (pa_cons pe_int pa_nil)))))
      (pss_cons (ps_set (i := 4) nd rfl (Or.inl rfl) (pe_call GDw hr3 rfl gDw FDw.kp bDw .nil pass0 (pa_cons (pv 1) (pa_cons (pv 3) (pa_cons (pe_ifExp (pt_cmpR op_eq (pv 2) pe_int (nomark _)) pe_int pe_int) pa_nil)))))
      (pss_cons (ps_set (i := 5) nd rfl (Or.inl rfl) (pv 4))
      (pss_cons (ps_for PassesOwn.never rfl (pi_range1 rfl T.range (pa_cons (pe_call GD hr2 rfl gD FD.kp bD .nil pass0 (pa_cons (pv 1) (pa_cons pe_int pa_nil))) pa_nil)) (pg_name (i := 6) nd rfl (Or.inl rfl)) (pss_one (ps_set (i := 5) nd rfl (Or.inl rfl) (pe_call GE hr3 rfl gE FE.kp bE .nil pass0 (pa_cons (pv 1) (pa_cons (pv 5) (pa_cons (pv 3) pa_nil)))))))
      (pss_cons (ps_set (i := 7) nd rfl (Or.inl rfl) (pe_ix ix_list (pe_lst (pa_cons (pe_call GDw hr3 rfl gDw FDw.kp bDw .nil pass0 (pa_cons (pv 1) (pa_cons (pv 3) (pa_cons (pe_ifExp (pt_cmpR op_lt (pv 2) pe_int (nomark _)) pe_int pe_int) pa_nil)))) (pa_cons (pv 5) pa_nil))) (pe_call GD hr2 rfl gD FD.kp bD .nil pass0 (pa_cons (pv 1) (pa_cons pe_int pa_nil))) (fun _ _ => rfl)))
      (pss_cons (ps_if (PW.pt (pw_or (pt_cmpR op_ne (pe_call GDi hr1 rfl gDi FDi.kp bDi .nil pass0 (pa_cons (pv 4) (pa_cons (pv 5) pa_nil))) (pe_call GF hr1 rfl gF FF.kp bF .nil pass0 (pa_cons (pv 4) (pa_cons (pv 5) pa_nil))) (nomark _)) (pw_or1 (pt_cmpR op_ne (pe_call GDi hr1 rfl gDi FDi.kp bDi .nil pass0 (pa_cons (pv 5) (pa_cons (pv 4) pa_nil))) (pe_call GF hr1 rfl gF FF.kp bF .nil pass0 (pa_cons (pv 4) (pa_cons (pv 5) pa_nil))) (nomark _))))) (pss_one (ps_ret pe_bl)) pss_nil)
      (pss_cons (ps_if (PW.pt (pw_or (pt_cmpR op_ne (pe_cmpR op_eq (pe_call GDi hr1 rfl gDi FDi.kp bDi .nil pass0 (pa_cons (pv 4) (pa_cons (pv 7) pa_nil))) pe_int (nomark _)) (pe_cmpR (op_eqD hr.units) (pv 4) (pv 7) (nomark _)) (nomark _)) (pw_or1 (pt_cmpR op_ne (pe_call GDi hr1 rfl gDi FDi.kp bDi .nil pass0 (pa_cons (pv 4) (pa_cons (pv 7) pa_nil))) (pe_call GF hr1 rfl gF FF.kp bF .nil pass0 (pa_cons (pv 4) (pa_cons (pv 7) pa_nil))) (nomark _))))) (pss_one (ps_ret pe_bl)) pss_nil)
      (pss_cons (ps_if (pt_cmpR op_gt (pe_call GDi hr1 rfl gDi FDi.kp bDi .nil pass0 (pa_cons (pv 4) (pa_cons (pv 7) pa_nil))) (pe_op op_add (pe_call GDi hr1 rfl gDi FDi.kp bDi .nil pass0 (pa_cons (pv 4) (pa_cons (pv 5) pa_nil))) (pe_call GDi hr1 rfl gDi FDi.kp bDi .nil pass0 (pa_cons (pv 5) (pa_cons (pv 7) pa_nil)))) (nomark _)) (pss_one (ps_ret pe_bl)) pss_nil)
      (pss_cons (ps_set (i := 8) nd rfl (Or.inl rfl) (pe_ix ix_list (pe_lst (pa_cons (pv 3) (pa_cons (pe_un un_neg pe_int) (pa_cons pe_bl (pa_cons pe_non (pa_cons pe_str (pa_cons (pe_tup (pa_cons pe_int pa_nil)) (pa_cons (pe_lst (pa_cons pe_int pa_nil)) (pa_cons (pe_op op_pow pe_int pe_int) pa_nil))))))))) (pe_call GD hr2 rfl gD FD.kp bD .nil pass0 (pa_cons (pv 1) (pa_cons pe_int pa_nil))) (fun _ _ => rfl)))
      (pss_cons (ps_set (i := 9) nd rfl (Or.inl rfl) (pe_call GD hr2 rfl gD FD.kp bD .nil pass0 (pa_cons (pv 1) (pa_cons (pe_op op_add (pe_callB (call_lenK (K := K) rfl) (by rfl) T.len PySem.boot_len (pa_cons (pv 4) pa_nil)) pe_int) pa_nil))))
      (pss_cons (ps_set (i := 10) nd rfl (Or.inl rfl) (pe_lst (pa_cons (pv 4) (pa_cons (pe_op op_catA (pe_op op_catA (pe_slice sl_tupA (pv 4) po_none (po_some (pv 9))) (pe_tup (pa_cons (pv 8) pa_nil))) (pe_slice sl_tupA (pv 4) (po_some (pv 9)) po_none)) (pa_cons (pe_callTy call_list_of (by rfl) T.list (by decide +kernel) (pa_cons (pv 4) pa_nil)) (pa_cons (pe_op op_catA (pv 4) (pe_op op_repT (pe_tup (pa_cons pe_int pa_nil)) pe_int)) (pa_cons pe_non (pa_cons pe_int (pa_cons pe_str (pa_cons pe_dnewK pa_nil))))))))))
      (pss_one (ps_for PassesOwn.never rfl (pi_list (pe_op op_cat (pv 10) (pe_lst (pa_cons (pe_call GA hr rfl gA FA.kp bA .nil pass0 (pa_cons (pv 1) (pa_cons pe_int pa_nil))) pa_nil)))) (pg_name (i := 11) nd rfl (Or.inl rfl)) (pss_cons (ps_set (i := 12) nd rfl (Or.inl rfl) (pe_and (pe_callB call_isi (by rfl) T.isi boot_isi (pa_cons (pv 11) (pa_cons (pe_bltn (v := .ty "tuple") (by rfl) T.tuple boot_tuple rfl) pa_nil))) (pe_and (pe_cmpR op_le (pe_callB (call_lenK (K := K) rfl) (by rfl) T.len PySem.boot_len (pa_cons (pv 11) pa_nil)) pe_int (nomark _)) (pe_one (pe_callB (cr_all rfl) (by rfl) T.all (by decide +kernel) (pa_cons (pe_lc (own := [("_law_k", 6)]) (g := gName 6) (tt := tYes) rfl nd (pi_tup (pv 11)) (blkOk_by (N := NLa) (sc := defScope sLaw) (by decide +kernel)) (fun _ _ _ _ _ => pg_name (i := 6) nd rfl (Or.inl rfl)) (fun _ _ _ _ _ => pts_nil) (fun _ _ _ _ _ => (pe_callB (call_isiK' (K := K) rfl) (by rfl) T.isi boot_isi (pa_cons (pv 6) (pa_cons (pe_bltn (v := .ty "int") (by rfl) T.int boot_int rfl) pa_nil))))) pa_nil))))))
      (pss_cons (ps_set (i := 12) nd rfl (Or.inl rfl) (pe_and (pv 12) (pe_one (pe_callB (cr_all rfl) (by rfl) T.all (by decide +kernel) (pa_cons (pe_lc (own := [("_law_k", 6)]) (g := gName 6) (tt := tYes) rfl nd (pi_tup (pv 11)) (blkOk_by (N := NLa) (sc := defScope sLaw) (by decide +kernel)) (fun _ _ _ _ _ => pg_name (i := 6) nd rfl (Or.inl rfl)) (fun _ _ _ _ _ => pts_nil) (fun _ _ _ _ _ => (pe_and (pe_not (pe_callB (call_isiK' (K := K) rfl) (by rfl) T.isi boot_isi (pa_cons (pv 6) (pa_cons (pe_bltn (v := .ty "bool") (by rfl) T.bool boot_bool rfl) pa_nil)))) (pe_one (pe_chain op_le op_lt pe_int (pv 6) (pv 3)))))) pa_nil)))))
      (pss_one (ps_if (pt_cmpR op_ne (pe_callB call_repr_bool (by rfl) T.repr (by decide +kernel) (pa_cons (pe_call GW hr3 rfl gW FW.kp bW .nil pass0 (pa_cons (pv 11) (pa_cons (pv 3) pa_nil))) pa_nil)) (pe_callB call_repr_bool (by rfl) T.repr (by decide +kernel) (pa_cons (pv 12) pa_nil)) (nomark _)) (pss_one (ps_ret pe_bl)) pss_nil))))))))))))))))))
      (pss_cons (ps_if (PW.pt (pw_or (pt_cmpR op_ne (pe_call GDi hr1 rfl gDi FDi.kp bDi .nil pass0 (pa_cons (pe_tup (pa_cons (pe_un un_neg pe_int) (pa_cons (pe_op op_pow pe_int pe_int) pa_nil))) (pa_cons (pe_tup (pa_cons (pe_op op_pow pe_int pe_int) (pa_cons (pe_un un_neg pe_int) pa_nil))) pa_nil))) pe_int (nomark _)) (pw_or1 (pt_cmpR op_ne (pe_call GDi hr1 rfl gDi FDi.kp bDi .nil pass0 (pa_cons (pe_tup (pa_cons (pe_un un_neg pe_int) (pa_cons pe_int pa_nil))) (pa_cons (pe_tup (pa_cons pe_int pa_nil)) pa_nil))) pe_int (nomark _))))) (pss_one (ps_ret pe_bl)) pss_nil)
      (pss_cons (ps_set (i := 13) nd rfl (Or.inl rfl) (pe_tup (pa_cons pe_int (pa_cons pe_int (pa_cons pe_int (pa_cons pe_int (pa_cons pe_int (pa_cons pe_int (pa_cons pe_int (pa_cons pe_int pa_nil))))))))))
      (pss_cons (ps_if (pt_cmpR op_ne (pe_call GDi hr1 rfl gDi FDi.kp bDi .nil pass0 (pa_cons (pe_op op_catA (pe_op op_repT (pe_tup (pa_cons pe_int pa_nil)) pe_int) (pv 13)) (pa_cons (pe_op op_catA (pv 13) (pe_op op_repT (pe_tup (pa_cons pe_int pa_nil)) pe_int)) pa_nil))) pe_int (nomark _)) (pss_one (ps_ret pe_bl)) pss_nil)
      (pss_one (ps_ret (pe_and (pe_cmpR op_eq (pe_call GDi hr1 rfl gDi FDi.kp bDi .nil pass0 (pa_cons (pe_tup pa_nil) (pa_cons (pe_tup pa_nil) pa_nil))) pe_int (nomark _)) (pe_one (pe_cmpR op_eq (pe_call GDi hr1 rfl gDi FDi.kp bDi .nil pass0 (pa_cons (pe_op op_repT (pe_tup (pa_cons pe_int pa_nil)) pe_int) (pa_cons (pe_op op_repT (pe_tup (pa_cons pe_int pa_nil)) pe_int) pa_nil))) pe_int (nomark _))))))))))), ?_⟩
    refine ⟨_, rfl, a, ns, rfl, hS, fun H1 pn c s1 n1 nc P1 => ?_⟩
    refine ⟨30, rfl, by decide, by decide, for_range (lo := 0) (n := 30) (fun i σ H' => ∃ s2 s3 s4 s5 s6 s7 s8 s9 s10 s11 s12 s13 : Option V, σ = [some (V.ref a), some (V.ref pn), s2, s3, s4, s5, s6, s7, s8, s9, s10, s11, s12, s13] ∧ PenAt H' pn c (i * 100))
      ⟨none, none, none, none, none, none, none, none, none, none, none, none, rfl, P1⟩ ?_ ?_⟩
    · rintro i σ H2 hi ⟨s2, s3, s4, s5, s6, s7, s8, s9, s10, s11, s12, s13, rfl, P2⟩
      have hib : i * 100 ≤ 3000 := by omega
      -- many
      refine ⟨_, rfl, pn, c, 5, i * 100, rfl, P2, by omega, by decide, by decide, fun H3 d b3 P3 d0 d1 => ⟨_, _, rfl, rfl, ?_⟩⟩
      dsimp only
      generalize em : (2 : Int) + d = m
      have m0 : 2 ≤ m := by omega
      have m1 : m ≤ 6 := by omega
      -- one
      refine ⟨_, rfl, _, rfl, _, rfl, rfl, _, rfl, if_c fun z hz => ?_⟩
      obtain ⟨t, rfl, ht⟩ : ∃ t : Nat, z = .int t ∧ t ≤ 12 := by
        rcases hz with rfl | rfl
        · exact ⟨12, rfl, by decide⟩
        · exact ⟨7, rfl, by decide⟩
      refine ⟨pn, c, _, m, t, rfl, P3, by omega, by omega, by omega, by omega, fun H4 a4 u b4 P4 n4 w4 l4 t4 => ?_⟩
      refine ⟨_, rfl, ?_⟩
      have l4' : u.length ≤ 12 := Nat.le_trans l4 ht
      -- the edits
      refine ⟨_, rfl, pn, c, 4, _, rfl, P4, by omega, by decide, by decide, fun H5 e b5 P5 e0 e1 => ?_⟩
      refine ⟨e, rfl, by omega, by omega, for_range (lo := 0) (n := e.toNat) (fun j σ H' => ∃ (b : Addr) (v : List Int) (s6 : Option V), σ = [some (V.ref a), some (V.ref pn), some (V.int (0 + (i : Int))), some (V.int m), some (V.ref a4), some (V.ref b), s6, s7, s8, s9, s10, s11, s12, s13] ∧ But pn H5 H' ∧ PenAt H' pn c (i * 100 + 15 + 3 * j) ∧ b ≠ pn ∧ WordAt H' b v ∧ v.length ≤ u.length + j ∧ ∀ x ∈ v, 0 ≤ x ∧ x < m)
        ⟨a4, u, s6, rfl, But.refl _ _, P5.up (by omega), n4, b5 _ _ n4 w4, Nat.le_refl _, t4⟩ ?_ ?_⟩
      · rintro j σ H6 hj ⟨b, v, t6, rfl, b6, P6, nb, wb, lb, tb⟩
        refine ⟨_, rfl, _, rfl, _, rfl, pn, c, b, _, m, v, rfl, P6, by omega, by omega, by omega, wb, nb, by omega, tb, fun H7 b' v' b7 P7 nb' wb' lb' tb' => ?_⟩
        exact ⟨b', v', _, rfl, b6.trans b7, P7.up (by omega), nb', wb', by omega, tb'⟩
      · rintro σ H6 ⟨b, v, t6, rfl, b6, P6, nb, wb, lb, tb⟩
        have lv : v.length ≤ 15 := by omega
        have P6' : PenAt H6 pn c (i * 100 + 24) := P6.up (by omega)
        have w6 : WordAt H6 a4 u := b6 _ _ n4 (b5 _ _ n4 w4)
        -- three
        refine ⟨_, rfl, _, rfl, _, rfl, _, _, rfl, rfl, _, rfl, if_c fun z hz => ?_⟩
        obtain ⟨t', rfl, ht'⟩ : ∃ t : Nat, z = .int t ∧ t ≤ 12 := by
          rcases hz with rfl | rfl
          · exact ⟨12, rfl, by decide⟩
          · exact ⟨7, rfl, by decide⟩
        refine ⟨pn, c, _, m, t', rfl, P6', by omega, by omega, by omega, by omega, fun H7 a7 u7 b7 P7 n7 w7 l7 t7 => ?_⟩
        refine ⟨_, rfl, (by show 2 ≤ sizeLine; decide), fun q nq => ?_⟩
        have Sq := same_new (o := .lst [.ref a7, .ref b]) nq
        have nqp := P7.neP nq
        refine ⟨_, rfl, pn, c, 2, _, rfl, P7.same Sq, by omega, by decide, by decide, fun H8 x b8 P8 x0 x1 => ?_⟩
        obtain ⟨a3, w3, hat3, wa3, na3, l3⟩ : ∃ (a3 : Addr) (w3 : List Int), atI [V.ref a7, V.ref b] x = some (V.ref a3) ∧ WordAt H8 a3 w3 ∧ a3 ≠ pn ∧ w3.length ≤ 15 := by
          obtain h | h : x = 0 ∨ x = 1 := by omega
          · subst h; exact ⟨a7, u7, rfl, b8 _ _ n7 (Sq _ _ w7), n7, by omega⟩
          · subst h; exact ⟨b, v, rfl, b8 _ _ nb (Sq _ _ (b7 _ _ nb wb)), nb, lv⟩
        refine ⟨q, _, x, _, rfl, rfl, SqL.of (b8 _ _ nqp upd_same), hat3, ?_⟩
        have w8 : WordAt H8 a4 u := b8 _ _ n4 (Sq _ _ (b7 _ _ n4 w6))
        have v8 : WordAt H8 b v := b8 _ _ nb (Sq _ _ (b7 _ _ nb wb))
        have P8' : PenAt H8 pn c (i * 100 + 38) := P8.up (by omega)
        -- the distances
        refine rd_dist rfl rfl w8 v8 (by omega) (by omega) fun Ha Sa => rd_dist rfl rfl (Sa _ _ w8) (Sa _ _ v8) (by omega) (by omega) fun Hb Sb => ⟨rfl, _, rfl, if_f (by simp) ?_⟩
        have S1 := Sa.trans Sb
        refine rd_dist rfl rfl (S1 _ _ v8) (S1 _ _ w8) (by omega) (by omega) fun Hc Sc => rd_dist rfl rfl (Sc _ _ (S1 _ _ w8)) (Sc _ _ (S1 _ _ v8)) (by omega) (by omega) fun Hd Sd => ⟨rfl, _, rfl, if_f (by rw [dp_comm v u]; simp) ?_⟩
        have S2 := (S1.trans Sc).trans Sd
        refine rd_dist rfl rfl (S2 _ _ w8) (S2 _ _ wa3) (by omega) (by omega) fun He Se => ⟨rfl, ?_⟩
        have S3 := S2.trans Se
        refine ⟨_, rfl, _, rfl, _, _, .tup (SqT.of (S3 _ _ w8)) (dp_ints u), .tup (SqT.of (S3 _ _ wa3)) (dp_ints w3), (shp_tup u).ok (by decide), (shp_tup w3).ok (by decide), rfl, _, rfl, if_f ?_ ?_⟩
        · rw [eqv_tups]
          have z := dp_zero u w3
          have e1 : decide (V.int (dp u w3) = V.int 0) = decide (u = w3) := by
            by_cases h : u = w3
            · rw [decide_eq_true h, decide_eq_true (by rw [z.mpr h])]
            · rw [decide_eq_false h, decide_eq_false (fun y => h (z.mp (V.int.inj y)))]
          rw [e1]
          simp
        refine rd_dist rfl rfl (S3 _ _ w8) (S3 _ _ wa3) (by omega) (by omega) fun Hf Sf => rd_dist rfl rfl (Sf _ _ (S3 _ _ w8)) (Sf _ _ (S3 _ _ wa3)) (by omega) (by omega) fun Hg Sg => ⟨rfl, _, rfl, if_f (by simp) ?_⟩
        have S4 := (S3.trans Sf).trans Sg
        refine rd_dist rfl rfl (S4 _ _ w8) (S4 _ _ wa3) (by omega) (by omega) fun Hh Sh => rd_dist rfl rfl (Sh _ _ (S4 _ _ w8)) (Sh _ _ (S4 _ _ v8)) (by omega) (by omega) fun Hk Sk => rd_dist rfl rfl (Sk _ _ (Sh _ _ (S4 _ _ v8))) (Sk _ _ (Sh _ _ (S4 _ _ wa3))) (by omega) (by omega) fun Hm Sm => ⟨_, _, rfl, rfl, _, _, rfl, rfl, _, rfl, if_f (fun z => ?_) ?_⟩
        · have y := of_decide_eq_true z
          have tri := dp_tri u v w3
          omega
        have S5 : Same H8 Hm := ((S4.trans Sh).trans Sk).trans Sm
        have w9 : WordAt Hm a4 u := S5 _ _ w8
        have P9 : PenAt Hm pn c (i * 100 + 38) := P8'.same S5
        -- odd
        refine ⟨_, rfl, _, rfl, (by show 1 ≤ sizeLine; decide), fun T1 nT1 => ⟨(by show 1 ≤ sizeLine; decide), fun L1 nL1 => ⟨_, _, rfl, rfl, ⟨by decide, by decide, by decide⟩, (by show 8 ≤ sizeLine; decide), fun q1 nq1 => ?_⟩⟩⟩
        have ST1 := same_new (o := .tup [.int 0]) nT1
        have SL1 := same_new (o := .lst [.int 0]) nL1
        have Sq1 := same_new (o := .lst [.int m, .int (-1), .bl true, .non, .str "0", .ref T1, .ref L1, .int (10 ^ (39 : Int).toNat)]) nq1
        have S6 := (ST1.trans SL1).trans Sq1
        have P10 := P9.same S6
        have nT1p := P9.neP nT1
        have nL1p := (P9.same ST1).neP nL1
        have nq1p := ((P9.same ST1).same SL1).neP nq1
        refine ⟨_, rfl, pn, c, 8, _, rfl, P10, by omega, by decide, by decide, fun H11 y b11 P11 y0 y1 => ?_⟩
        obtain ⟨x8, hx8, tx8⟩ : ∃ x8, atI [V.int m, .int (-1), .bl true, .non, .str "0", .ref T1, .ref L1, .int (10 ^ (39 : Int).toNat)] y = some x8 ∧ ThP pn H11 x8 := by
          obtain h | h | h | h | h | h | h | h : y = 0 ∨ y = 1 ∨ y = 2 ∨ y = 3 ∨ y = 4 ∨ y = 5 ∨ y = 6 ∨ y = 7 := by omega
          · subst h; exact ⟨_, rfl, .int _, by intro z; cases z⟩
          · subst h; exact ⟨_, rfl, .int _, by intro z; cases z⟩
          · subst h; exact ⟨_, rfl, .bl _, by intro z; cases z⟩
          · subst h; exact ⟨_, rfl, .non, by intro z; cases z⟩
          · subst h; exact ⟨_, rfl, .str _, by intro z; cases z⟩
          · subst h; exact ⟨_, rfl, .tup (b11 _ _ nT1p (Sq1 _ _ (SL1 _ _ upd_same))), fun z => nT1p (V.ref.inj z)⟩
          · subst h; exact ⟨_, rfl, .lst (b11 _ _ nL1p (Sq1 _ _ upd_same)), fun z => nL1p (V.ref.inj z)⟩
          · subst h; exact ⟨_, rfl, .int _, by intro z; cases z⟩
        refine ⟨q1, _, y, x8, rfl, rfl, SqL.of (b11 _ _ nq1p upd_same), hx8, ?_⟩
        have w11 : WordAt H11 a4 u := b11 _ _ n4 (S6 _ _ w9)
        -- spot
        have lu : (u.map V.int).length = u.length := List.length_map ..
        refine ⟨_, rfl, _, rfl, a4, _, rfl, .inr (SqT.of w11), _, _, rfl, rfl, pn, c, _, _, rfl, P11, by omega, by rw [lu]; omega, by rw [lu]; omega, fun H12 sp b12 P12 sp0 sp1 => ?_⟩
        obtain ⟨k', rfl⟩ := Int.eq_ofNat_of_zero_le sp0
        have w12 : WordAt H12 a4 u := b12 _ _ n4 w11
        have tx12 : ThP pn H12 x8 := tx8.but b12
        have P12' : PenAt H12 pn c (i * 100 + 40) := P12.up (by omega)
        have nex : ∀ {H' : Hp} {b : Addr} {xs : List V} {n : Nat}, PenAt H' pn c n → H' b = some (.tup xs) → b ≠ pn := fun P' hb z => by
          obtain ⟨cs, i', r, hP, _⟩ := P'
          rw [z, hP.pen] at hb
          cases hb
        -- things
        refine ⟨_, rfl, ?_⟩
        refine ⟨_, rfl, _, rfl, _, rfl, ?_⟩
        refine slA_any w12 fun H13 y13 S13 h13 => ?_
        refine ⟨_, rfl, (by show 1 ≤ sizeLine; decide), fun T2 nT2 => ?_⟩
        have ST2 := same_new (o := .tup [x8]) nT2
        rw [cut_to] at h13
        refine catA_any (ST2 _ _ h13) upd_same (by rw [List.length_take, lu, List.length_singleton]; omega) fun H14 y14 S14 h14 => ?_
        have S12 : Same H12 H14 := (S13.trans ST2).trans S14
        refine ⟨_, rfl, _, rfl, _, rfl, ?_⟩
        dsimp only [tNoPart]
        refine slA_any (S12 _ _ w12) fun H15 y15 S15 h15 => ?_
        rw [cut_from] at h15
        refine catA_any (S15 _ _ h14) h15 (by rw [List.length_append, List.length_take, List.length_drop, lu, List.length_singleton]; omega) fun H16 y16 S16 h16 => ?_
        have S17 : Same H12 H16 := (S12.trans S15).trans S16
        -- list(one), one + (0,) * 13
        refine ⟨_, rfl, a4, _, rfl, .inr (SqT.of (S17 _ _ w12)), fun L3 nL3 => ?_⟩
        have SL3 := same_new (o := .lst (u.map V.int)) nL3
        refine ⟨_, rfl, (by show 1 ≤ sizeLine; decide), fun T4 nT4 => ?_⟩
        have ST4 := same_new (o := .tup [.int 0]) nT4
        refine ⟨T4, 13, [.int 0], rfl, rfl, SqT.of upd_same, by simp, by decide, by decide, by decide, fun T5 nT5 => ?_⟩
        have ST5 := same_new (o := .tup (List.replicate (13 : Int).toNat [V.int 0]).flatten) nT5
        refine catA_any (ST5 _ _ (ST4 _ _ (SL3 _ _ (S17 _ _ w12)))) upd_same (by rw [lu]; show u.length + 13 ≤ 1000; omega) fun H18 y18 S18 h18 => ?_
        -- the dict, the list
        refine fun d8 nd8 => ⟨(by show 8 ≤ sizeLine; decide), fun q8 nq8 => ?_⟩
        have Sd8 := same_new (o := .dK []) nd8
        generalize eL : [V.ref a4, .ref y16, .ref L3, .ref y18, .non, .int 0, .str "", .ref d8] = things
        have Sq8 := same_new (o := .lst things) nq8
        have S19 : Same H12 H18 := ((((S17.trans SL3).trans ST4).trans ST5).trans S18)
        have S20 := (S19.trans Sd8).trans Sq8
        have P20 := P12'.same S20
        have nq8p := ((P12'.same S19).same Sd8).neP nq8
        have word_th : ∀ {H' : Hp} {b : Addr} {ys : List Int} {n : Nat}, PenAt H' pn c n → H' b = some (.tup (ys.map V.int)) → ThTP pn H' (.ref b) := fun P' hb => by
          refine ⟨⟨.tup hb, fun z => nex P' hb (V.ref.inj z)⟩, fun xs ex y hy => ?_⟩
          rw [tupV_of hb] at ex
          cases ex
          obtain ⟨z, _, rfl⟩ := List.mem_map.mp hy
          exact ⟨.int z, by intro e; cases e⟩
        have thing_all : ∀ y ∈ things, ThTP pn (upd (upd H18 d8 (.dK [])) q8 (.lst things)) y := by
          rw [← eL]
          intro y hy
          simp only [List.mem_cons, List.not_mem_nil, or_false] at hy
          rw [eL]
          rcases hy with h | h | h | h | h | h | h | h
          · subst h; exact word_th P20 (S20 _ _ w12)
          · subst h
            have h16' := Sq8 _ _ (Sd8 _ _ (S18 _ _ (ST5 _ _ (ST4 _ _ (SL3 _ _ h16)))))
            refine ⟨⟨.tup h16', fun z => nex P20 h16' (V.ref.inj z)⟩, fun xs ex y hy => ?_⟩
            rw [tupV_of h16'] at ex
            cases ex
            rcases List.mem_append.mp hy with h | h
            · rcases List.mem_append.mp h with h | h
              · obtain ⟨z, _, rfl⟩ := List.mem_map.mp (List.mem_of_mem_take h)
                exact ⟨.int z, by intro e; cases e⟩
              · rw [List.mem_singleton.mp h]
                exact tx12.but (Same.but S20)
            · obtain ⟨z, _, rfl⟩ := List.mem_map.mp (List.mem_of_mem_drop h)
              exact ⟨.int z, by intro e; cases e⟩
          · subst h
            have hL3 := Sq8 _ _ (Sd8 _ _ (S18 _ _ (ST5 _ _ (ST4 _ _ (upd_same (H := H16) (a := L3) (o := .lst (u.map V.int)))))))
            refine ⟨⟨.lst hL3, fun z => (P12'.same S17).neP nL3 (V.ref.inj z)⟩, fun xs ex => ?_⟩
            rw [tupV_ref, hL3] at ex
            cases ex
          · subst h
            have h18' := Sq8 _ _ (Sd8 _ _ h18)
            refine ⟨⟨.tup h18', fun z => nex P20 h18' (V.ref.inj z)⟩, fun xs ex y hy => ?_⟩
            rw [tupV_of h18'] at ex
            cases ex
            rcases List.mem_append.mp hy with h | h
            · obtain ⟨z, _, rfl⟩ := List.mem_map.mp h
              exact ⟨.int z, by intro e; cases e⟩
            · have hy0 : y = V.int 0 := by
                simp only [show (13 : Int).toNat = 13 from rfl, List.replicate, List.flatten_cons, List.flatten_nil, List.mem_append, List.mem_cons, List.not_mem_nil, or_false, List.append_nil] at h
                simpa using h
              rw [hy0]
              exact ⟨.int 0, by intro e; cases e⟩
          · subst h; exact ThP.flat (fun a z => nomatch z) .non
          · subst h; exact ThP.flat (fun a z => nomatch z) (.int _)
          · subst h; exact ThP.flat (fun a z => nomatch z) (.str _)
          · subst h
            have hd8 := Sq8 _ _ (upd_same (H := H18) (a := d8) (o := .dK []))
            refine ⟨⟨.dK hd8, fun z => (P12'.same S19).neP nd8 (V.ref.inj z)⟩, fun xs ex => ?_⟩
            rw [tupV_ref, hd8] at ex
            cases ex
        have lth : things.length = 8 := by rw [← eL]; rfl
        -- the loop
        refine ⟨_, rfl, _, rfl, pn, c, _, rfl, P20, by (show _ + anyC 2 ≤ _); have : anyC 2 = 26 := rfl; omega, fun H21 x9 b21 P21 t21 f21 => ?_⟩
        refine ⟨(by show 1 ≤ sizeLine; decide), fun q9 nq9 => ?_⟩
        have Sq9 := same_new (o := .lst [x9]) nq9
        refine ⟨q8, q9, _, _, rfl, rfl, Sq9 _ _ (b21 _ _ nq8p upd_same), upd_same, (by rw [lth]; show 8 + 1 ≤ sizeLine; decide), fun r nr => ?_⟩
        have Sr := same_new (o := .lst (things ++ [x9])) nr
        have S22 := Sq9.trans Sr
        have th22 : ∀ y ∈ things ++ [x9], ThT (upd (upd H21 q9 (.lst [x9])) r (.lst (things ++ [x9]))) y := fun y hy => by
          rcases List.mem_append.mp hy with h | h
          · exact ((thing_all y h).but (b21.trans (Same.but S22))).thT
          · rw [List.mem_singleton.mp h]
            exact (t21.but (Same.but S22)).thT
        generalize eH : upd (upd H21 q9 (.lst [x9])) r (.lst (things ++ [x9])) = H22 at th22 S22
        have hr22 : H22 r = some (.lst (things ++ [x9])) := by rw [← eH]; exact upd_same
        have P22 : PenAt H22 pn c ((i + 1) * 100) := (P21.same S22).up (by (show i * 100 + 40 + anyC 2 ≤ _); have : anyC 2 = 26 := rfl; omega)
        refine ⟨r, rfl, ⟨_, SqL.of hr22⟩, ?_⟩
        refine for_list (K := K) (a := r) (xs := things ++ [x9]) (fun j σ H' => ∃ s11 s12 : Option V, σ = [some (V.ref a), some (V.ref pn), some (V.int (0 + (i : Int))), some (V.int m), some (V.ref a4), some (V.ref b), t6, some (V.ref a3), some x8, some (V.int (k' : Int)), some (V.ref q8), s11, s12, s13] ∧ Same H22 H')
          ⟨s11, s12, rfl, Same.refl _⟩ (fun j σ H' _ ⟨_, _, _, S⟩ => SqL.of (S _ _ hr22)) ?_ ?_
        · rintro j y σ H23 hj ⟨t11, t12, rfl, S23⟩
          have ty : ThT H23 y := (th22 y (List.mem_of_getElem? hj)).same S23
          refine rd_good1 (K := K) ty fun H24 S24 => ?_
          have eg : good1 H23 y = good1 H24 y := by unfold good1; rw [ty.1.tupV_eq S24]
          rw [eg]
          refine rd_good2 (K := K) (ty.same S24) fun H25 S25 => ?_
          refine ⟨_, rfl, _, rfl, y, m, rfl, (ty.same S24).same S25, fun H26 S26 => ?_⟩
          refine ⟨_, rfl, _, rfl, _, rfl, rfl, _, rfl, if_f ?_ ?_⟩
          · have ew : isWordB H25 m y = isWordB H24 m y := by unfold isWordB; rw [(ty.same S24).1.tupV_eq S25]
            rw [ew]
            simp
          · exact ⟨_, _, rfl, ((S23.trans S24).trans S25).trans S26⟩
        · rintro σ H23 ⟨t11, t12, rfl, S23⟩
          exact ⟨_, _, _, _, _, _, _, _, _, _, _, _, rfl, P22.same S23⟩
    · rintro σ H2 ⟨s2, s3, s4, s5, s6, s7, s8, s9, s10, s11, s12, s13, rfl, P2⟩
      have p20 : (10 : Int) ^ (20 : Int).toNat = 100000000000000000000 := by decide
      -- distance((-1, 10 ** 20), (10 ** 20, -1)) != 2
      refine ⟨_, rfl, _, _, rfl, rfl, ⟨by decide, by decide, by decide⟩, (by show 2 ≤ sizeLine; decide), fun T1 n1 => ⟨_, _, rfl, rfl, ⟨by decide, by decide, by decide⟩, _, rfl, (by show 2 ≤ sizeLine; decide), fun T2 n2 => ?_⟩⟩
      refine ⟨T1, T2, [-1, 10 ^ (20 : Int).toNat], [10 ^ (20 : Int).toNat, -1], rfl, same_new n2 _ _ upd_same, upd_same, by decide, by decide, fun H3 S3 => ⟨rfl, _, rfl, if_f ?_ ?_⟩⟩
      · rw [p20, dp_law1]
        simp
      refine ⟨_, rfl, (by show 2 ≤ sizeLine; decide), fun T3 n3 => ⟨(by show 1 ≤ sizeLine; decide), fun T4 n4 => ?_⟩⟩
      refine ⟨T3, T4, [-7, 99], [99], rfl, same_new n4 _ _ upd_same, upd_same, by decide, by decide, fun H4 S4 => ⟨rfl, _, rfl, if_f ?_ ?_⟩⟩
      · rw [dp_law2]
        simp
      -- some
      refine ⟨(by show 8 ≤ sizeLine; decide), fun T5 n5 => ?_⟩
      generalize eH5 : upd H4 T5 _ = H5
      have h5 : H5 T5 = some (.tup (([0, 2, 0, 3, 0, 4, 0, 5] : List Int).map V.int)) := by rw [← eH5]; exact upd_same
      refine ⟨(by show 1 ≤ sizeLine; decide), fun T6 n6 => ⟨T6, 4, [.int 1], rfl, rfl, SqT.of upd_same, by simp, by decide, by decide, by decide, fun T7 n7 => ⟨_, rfl, ?_⟩⟩⟩
      have S6 := same_new (o := .tup [.int 1]) n6
      have S7 := same_new (o := .tup (List.replicate (4 : Int).toNat [V.int 1]).flatten) n7
      refine catA_any upd_same (S7 _ _ (S6 _ _ h5)) (by decide) fun H8 T8 S8 h8 => ?_
      refine ⟨_, rfl, (by show 1 ≤ sizeLine; decide), fun T9 n9 => ⟨T9, 4, [.int 1], rfl, rfl, SqT.of upd_same, by simp, by decide, by decide, by decide, fun T10 n10 => ?_⟩⟩
      have S9 := same_new (o := .tup [.int 1]) n9
      have S10 := same_new (o := .tup (List.replicate (4 : Int).toNat [V.int 1]).flatten) n10
      refine catA_any (S10 _ _ (S9 _ _ (S8 _ _ (S7 _ _ (S6 _ _ h5))))) upd_same (by decide) fun H11 T11 S11 h11 => ?_
      have h8' : H8 T8 = some (.tup (([1, 1, 1, 1] ++ [0, 2, 0, 3, 0, 4, 0, 5] : List Int).map V.int)) := by rw [h8]; rfl
      have h11' : H11 T11 = some (.tup (([0, 2, 0, 3, 0, 4, 0, 5] ++ [1, 1, 1, 1] : List Int).map V.int)) := by rw [h11]; rfl
      refine ⟨T8, T11, [1, 1, 1, 1] ++ [0, 2, 0, 3, 0, 4, 0, 5], [0, 2, 0, 3, 0, 4, 0, 5] ++ [1, 1, 1, 1], rfl, S11 _ _ (S10 _ _ (S9 _ _ h8')), h11', by decide, by decide, fun H12 S12 => ⟨rfl, _, rfl, if_f ?_ ?_⟩⟩
      · rw [dp_law3]
        simp
      -- the end
      refine ⟨Nat.zero_le _, fun T12 n12 => ⟨Nat.zero_le _, fun T13 n13 => ?_⟩⟩
      refine ⟨T12, T13, [], [], rfl, same_new n13 _ _ upd_same, upd_same, by decide, by decide, fun H13 S13 => ⟨rfl, _, rfl, if_t ?_ ?_⟩⟩
      · rw [dp_law4]
        simp
      refine ⟨(by show 1 ≤ sizeLine; decide), fun T14 n14 => ⟨T14, 12, [.int 1], rfl, rfl, SqT.of upd_same, by simp, by decide, by decide, by decide, fun T15 n15 => ?_⟩⟩
      refine ⟨(by show 1 ≤ sizeLine; decide), fun T16 n16 => ⟨T16, 12, [.int 2], rfl, rfl, SqT.of upd_same, by simp, by decide, by decide, by decide, fun T17 n17 => ?_⟩⟩
      refine ⟨T15, T17, List.replicate 12 1, List.replicate 12 2, rfl, same_new n17 _ _ (same_new n16 _ _ upd_same), upd_same, by decide, by decide, fun H14 S14 => ⟨rfl, ?_⟩⟩
      show Q (V.bl (decide (V.int (dp (List.replicate 12 1) (List.replicate 12 2)) = V.int 12))) _
      rw [dp_law5, decide_eq_true rfl]
      exact k _

end
end Stp
set_option Elab.async false
set_option linter.all false
set_option maxRecDepth 100000
set_option maxHeartbeats 4000000
namespace Stp
open PySem PyProof.Rows L2
theorem all_mk {l : PySem.W.OpenLaw} {w : World} {K : PySem.W.Frag} {h : Heap} {mg : Str → Option Value} {fa : Addr} 
    {fP : Addr} {odP anP : Option Addr} {slP : Array (Option Value)} {ocP kVP dcP pmP cdP ctP : Value}
    {fN : Addr} {odN anN : Option Addr} {slN : Array (Option Value)} {ocN kVN dcN pmN cdN ctN : Value}
    {fD : Addr} {odD anD : Option Addr} {slD : Array (Option Value)} {ocD kVD dcD pmD cdD ctD : Value}
    {fI : Addr} {odI anI : Option Addr} {slI : Array (Option Value)} {ocI kVI dcI pmI cdI ctI : Value}
    {fB : Addr} {odB anB : Option Addr} {slB : Array (Option Value)} {ocB kVB dcB pmB cdB ctB : Value}
    {fW : Addr} {odW anW : Option Addr} {slW : Array (Option Value)} {ocW kVW dcW pmW cdW ctW : Value}
    {fDi : Addr} {odDi anDi : Option Addr} {slDi : Array (Option Value)} {ocDi kVDi dcDi pmDi cdDi ctDi : Value}
    {fA : Addr} {odA anA : Option Addr} {slA : Array (Option Value)} {ocA kVA dcA pmA cdA ctA : Value}
    {fDw : Addr} {odDw anDw : Option Addr} {slDw : Array (Option Value)} {ocDw kVDw dcDw pmDw cdDw ctDw : Value}
    {fE : Addr} {odE anE : Option Addr} {slE : Array (Option Value)} {ocE kVE dcE pmE cdE ctE : Value}
    {fFr : Addr} {odFr anFr : Option Addr} {slFr : Array (Option Value)} {ocFr kVFr dcFr pmFr cdFr ctFr : Value}
    {fL : Addr} {odL anL : Option Addr} {slL : Array (Option Value)} {ocL kVL dcL pmL cdL ctL : Value}
    {tw : Tok}
    (X : K.In h) (G : h.Ns mainGlobals mg) (hfa : mg "law" = some (.ref fa))
    (aP : PySem.W.nsIn K mainGlobals "_law_pen" = some (some (.ref fP))) (lP : K.lookup fP = some ⟨ocP, odP, .func (PySem.W.fnOf "_law_pen" "_law_pen" (defArgs sPen) (defBody sPen) (defScope sPen) .none kVP dcP pmP anP cdP ctP), slP⟩) (cP : PySem.W.codeIn K cdP "_law_pen" = true) (kP : PySem.W.keepIn K (.ref fP) = true)
    (aN : PySem.W.nsIn K mainGlobals "_law_next" = some (some (.ref fN))) (lN : K.lookup fN = some ⟨ocN, odN, .func (PySem.W.fnOf "_law_next" "_law_next" (defArgs sNext) (defBody sNext) (defScope sNext) .none kVN dcN pmN anN cdN ctN), slN⟩) (cN : PySem.W.codeIn K cdN "_law_next" = true) (kN : PySem.W.keepIn K (.ref fN) = true)
    (aD : PySem.W.nsIn K mainGlobals "_law_draw" = some (some (.ref fD))) (lD : K.lookup fD = some ⟨ocD, odD, .func (PySem.W.fnOf "_law_draw" "_law_draw" (defArgs sDraw) (defBody sDraw) (defScope sDraw) .none kVD dcD pmD anD cdD ctD), slD⟩) (cD : PySem.W.codeIn K cdD "_law_draw" = true) (kD : PySem.W.keepIn K (.ref fD) = true)
    (aI : PySem.W.nsIn K mainGlobals "is_integer" = some (some (.ref fI))) (lI : K.lookup fI = some ⟨ocI, odI, .func (PySem.W.fnOf "is_integer" "is_integer" (defArgs sIsInteger) (defBody sIsInteger) (defScope sIsInteger) .none kVI dcI pmI anI cdI ctI), slI⟩) (cI : PySem.W.codeIn K cdI "is_integer" = true) (kI : PySem.W.keepIn K (.ref fI) = true)
    (aB : PySem.W.nsIn K mainGlobals "is_below" = some (some (.ref fB))) (lB : K.lookup fB = some ⟨ocB, odB, .func (PySem.W.fnOf "is_below" "is_below" (defArgs sIsBelow) (defBody sIsBelow) (defScope sIsBelow) .none kVB dcB pmB anB cdB ctB), slB⟩) (cB : PySem.W.codeIn K cdB "is_below" = true) (kB : PySem.W.keepIn K (.ref fB) = true)
    (aW : PySem.W.nsIn K mainGlobals "is_word" = some (some (.ref fW))) (lW : K.lookup fW = some ⟨ocW, odW, .func (PySem.W.fnOf "is_word" "is_word" (defArgs sIsWord) (defBody sIsWord) (defScope sIsWord) .none kVW dcW pmW anW cdW ctW), slW⟩) (cW : PySem.W.codeIn K cdW "is_word" = true) (kW : PySem.W.keepIn K (.ref fW) = true)
    (aDi : PySem.W.nsIn K mainGlobals "distance" = some (some (.ref fDi))) (lDi : K.lookup fDi = some ⟨ocDi, odDi, .func (PySem.W.fnOf "distance" "distance" (defArgs sDistance) (defBody sDistance) (defScope sDistance) .none kVDi dcDi pmDi anDi cdDi ctDi), slDi⟩) (cDi : PySem.W.codeIn K cdDi "distance" = true) (kDi : PySem.W.keepIn K (.ref fDi) = true)
    (aA : PySem.W.nsIn K mainGlobals "_law_any" = some (some (.ref fA))) (lA : K.lookup fA = some ⟨ocA, odA, .func (PySem.W.fnOf "_law_any" "_law_any" (defArgs sAny) (defBody sAny) (defScope sAny) .none kVA dcA pmA anA cdA ctA), slA⟩) (cA : PySem.W.codeIn K cdA "_law_any" = true) (kA : PySem.W.keepIn K (.ref fA) = true)
    (aDw : PySem.W.nsIn K mainGlobals "_law_drawn_word" = some (some (.ref fDw))) (lDw : K.lookup fDw = some ⟨ocDw, odDw, .func (PySem.W.fnOf "_law_drawn_word" "_law_drawn_word" (defArgs sDrawn) (defBody sDrawn) (defScope sDrawn) .none kVDw dcDw pmDw anDw cdDw ctDw), slDw⟩) (cDw : PySem.W.codeIn K cdDw "_law_drawn_word" = true) (kDw : PySem.W.keepIn K (.ref fDw) = true)
    (aE : PySem.W.nsIn K mainGlobals "_law_edited" = some (some (.ref fE))) (lE : K.lookup fE = some ⟨ocE, odE, .func (PySem.W.fnOf "_law_edited" "_law_edited" (defArgs sEdited) (defBody sEdited) (defScope sEdited) .none kVE dcE pmE anE cdE ctE), slE⟩) (cE : PySem.W.codeIn K cdE "_law_edited" = true) (kE : PySem.W.keepIn K (.ref fE) = true)
    (aFr : PySem.W.nsIn K mainGlobals "_law_far" = some (some (.ref fFr))) (lFr : K.lookup fFr = some ⟨ocFr, odFr, .func (PySem.W.fnOf "_law_far" "_law_far" (defArgs sFar) (defBody sFar) (defScope sFar) .none kVFr dcFr pmFr anFr cdFr ctFr), slFr⟩) (cFr : PySem.W.codeIn K cdFr "_law_far" = true) (kFr : PySem.W.keepIn K (.ref fFr) = true)
    (aL : PySem.W.nsIn K mainGlobals "law" = some (some (.ref fL))) (lL : K.lookup fL = some ⟨ocL, odL, .func (PySem.W.fnOf "law" "law" (defArgs sLaw) (defBody sLaw) (defScope sLaw) .none kVL dcL pmL anL cdL ctL), slL⟩) (cL : PySem.W.codeIn K cdL "law" = true) (kL : PySem.W.keepIn K (.ref fL) = true)
    (z_list : PySem.W.nsIn K mainGlobals "list" = some none)
    (z_int : PySem.W.nsIn K mainGlobals "int" = some none)
    (z_len : PySem.W.nsIn K mainGlobals "len" = some none)
    (z_isinstance : PySem.W.nsIn K mainGlobals "isinstance" = some none)
    (z_bool : PySem.W.nsIn K mainGlobals "bool" = some none)
    (z_tuple : PySem.W.nsIn K mainGlobals "tuple" = some none)
    (z_all : PySem.W.nsIn K mainGlobals "all" = some none)
    (z_range : PySem.W.nsIn K mainGlobals "range" = some none)
    (z_enumerate : PySem.W.nsIn K mainGlobals "enumerate" = some none)
    (z_min : PySem.W.nsIn K mainGlobals "min" = some none)
    (z_dict : PySem.W.nsIn K mainGlobals "dict" = some none)
    (z_repr : PySem.W.nsIn K mainGlobals "repr" = some none)
    (c_MAX_WORD : PySem.W.nsIn K mainGlobals "MAX_WORD" = some (some (.int 12 tw))) :
    ∃ fd : FuncData, (∀ (s : Shared) (v : Value), BindsTo s fd ⟨[v], []⟩ [("_law_script", v)]) ∧ ∀ base : Heap, K.In base → base.Ns mainGlobals mg → FnOk l.prog w K mg base CX0 6 fa fd ["_law_script"] (spLaw K) := by
  have e := hfa.symm.trans (PySem.W.mg_of X G aL)
  cases e
  have F_P := fun_mk (st := sPen) lP cP kP
  have g_P := PySem.W.mg_of X G aP
  have b_P := F_P.binds (ps := ["_law_script"]) fun _ _ _ _ _ _ us hl => match us, hl with | [_], _ => rfl
  have F_N := fun_mk (st := sNext) lN cN kN
  have g_N := PySem.W.mg_of X G aN
  have b_N := F_N.binds (ps := ["_law_pen_here"]) fun _ _ _ _ _ _ us hl => match us, hl with | [_], _ => rfl
  have F_D := fun_mk (st := sDraw) lD cD kD
  have g_D := PySem.W.mg_of X G aD
  have b_D := F_D.binds (ps := ["_law_pen_here", "_law_under"]) fun _ _ _ _ _ _ us hl => match us, hl with | [_, _], _ => rfl
  have F_I := fun_mk (st := sIsInteger) lI cI kI
  have g_I := PySem.W.mg_of X G aI
  have b_I := F_I.binds (ps := ["thing"]) fun _ _ _ _ _ _ us hl => match us, hl with | [_], _ => rfl
  have F_B := fun_mk (st := sIsBelow) lB cB kB
  have g_B := PySem.W.mg_of X G aB
  have b_B := F_B.binds (ps := ["thing", "count"]) fun _ _ _ _ _ _ us hl => match us, hl with | [_, _], _ => rfl
  have F_W := fun_mk (st := sIsWord) lW cW kW
  have g_W := PySem.W.mg_of X G aW
  have b_W := F_W.binds (ps := ["thing", "signs"]) fun _ _ _ _ _ _ us hl => match us, hl with | [_, _], _ => rfl
  have F_Di := fun_mk (st := sDistance) lDi cDi kDi
  have g_Di := PySem.W.mg_of X G aDi
  have b_Di := F_Di.binds (ps := ["one", "other"]) fun _ _ _ _ _ _ us hl => match us, hl with | [_, _], _ => rfl
  have F_A := fun_mk (st := sAny) lA cA kA
  have g_A := PySem.W.mg_of X G aA
  have b_A := F_A.binds (ps := ["_law_pen_here", "_law_levels"]) fun _ _ _ _ _ _ us hl => match us, hl with | [_, _], _ => rfl
  have F_Dw := fun_mk (st := sDrawn) lDw cDw kDw
  have g_Dw := PySem.W.mg_of X G aDw
  have b_Dw := F_Dw.binds (ps := ["_law_pen_here", "_law_many", "_law_most"]) fun _ _ _ _ _ _ us hl => match us, hl with | [_, _, _], _ => rfl
  have F_E := fun_mk (st := sEdited) lE cE kE
  have g_E := PySem.W.mg_of X G aE
  have b_E := F_E.binds (ps := ["_law_pen_here", "_law_one", "_law_many"]) fun _ _ _ _ _ _ us hl => match us, hl with | [_, _, _], _ => rfl
  have F_Fr := fun_mk (st := sFar) lFr cFr kFr
  have g_Fr := PySem.W.mg_of X G aFr
  have b_Fr := F_Fr.binds (ps := ["_law_one", "_law_two"]) fun _ _ _ _ _ _ us hl => match us, hl with | [_, _], _ => rfl
  have F_L := fun_mk (st := sLaw) lL cL kL
  have n_list := PySem.W.mg_none_of X G z_list
  have n_int := PySem.W.mg_none_of X G z_int
  have n_len := PySem.W.mg_none_of X G z_len
  have n_isinstance := PySem.W.mg_none_of X G z_isinstance
  have n_bool := PySem.W.mg_none_of X G z_bool
  have n_tuple := PySem.W.mg_none_of X G z_tuple
  have n_all := PySem.W.mg_none_of X G z_all
  have n_range := PySem.W.mg_none_of X G z_range
  have n_enumerate := PySem.W.mg_none_of X G z_enumerate
  have n_min := PySem.W.mg_none_of X G z_min
  have n_dict := PySem.W.mg_none_of X G z_dict
  have n_repr := PySem.W.mg_none_of X G z_repr
  have m_MAX_WORD := PySem.W.mg_of X G c_MAX_WORD
  have TP : PenTxt mg := ⟨n_list, n_int, n_len⟩
  have TW : WordTxt mg := ⟨n_isinstance, n_int, n_bool, n_tuple, n_len, n_all, ⟨_, m_MAX_WORD⟩⟩
  have TD : DistTxt mg := ⟨n_list, n_range, n_len, n_enumerate, n_min⟩
  have TF : FarTxt mg := ⟨n_range, n_len, n_min, n_int⟩
  have TA : AnyTxt mg := ⟨n_range, n_dict, n_len, n_tuple⟩
  have TR : DrawnTxt mg := ⟨n_range, n_len, n_tuple⟩
  have T : LawTxt mg := ⟨n_range, n_len, n_list, n_isinstance, n_tuple, n_all, n_int, n_bool, n_repr⟩
  exact ⟨_, fun s v => .of_eq rfl, fun base _ _ => ok_law F_L T TP TW TD TF TA TR F_P g_P b_P F_N g_N b_N F_D g_D b_D F_I g_I b_I F_B g_B b_B F_W g_W b_W F_Di g_Di b_Di F_A g_A b_A F_Dw g_Dw b_Dw F_E g_E b_E F_Fr g_Fr b_Fr⟩
theorem walk {l : PySem.W.OpenLaw} {q : Program} {loose : List Str} {XP : (Str → Option Value) → Heap → Prop} {YP : World → Heap → Prop} {d : DefRec} {K : Params → PySem.W.Frag} (hn : l.most = some 63) (hdf : d.params.defaults = [])
    (hY : ∀ (w : World) (h : Heap), YP w h → (K w.params).In h)
    (F : ∀ (w : World) (mg : Str → Option Value) (fa : Addr) (h : Heap), (K w.params).In h → h.Ns mainGlobals mg → mg d.name = some (.ref fa) →
      ∃ fd : FuncData, (∀ (s : Shared) (u : Value), BindsTo s fd ⟨[u], []⟩ [("_law_script", u)]) ∧ ∀ base : Heap, (K w.params).In base → base.Ns mainGlobals mg → FnOk l.prog w (K w.params) mg base CX0 6 fa fd ["_law_script"] (spLaw (K w.params))) :
    PySem.W.WalkO q loose XP YP l.row.toRowW d [] (fun f vs => PySem.call f vs) :=
  L2.walk_of (n := 63) (k := 6) (x := "_law_script") (CX := fun _ => CX0) (sp := fun w => spLaw (K w.params)) hn (by decide) hdf ⟨rfl, by decide, by decide⟩ hY F (fun _ _ a ns hl _ hS => ⟨a, ns, rfl, hS, fun _ => rfl⟩) fun _ _ _ _ _ z => z
end Stp
set_option Elab.async false
set_option linter.all false
set_option maxRecDepth 100000
open PySem PySem.W PyProof.Rows in
set_option maxRecDepth 100000 in
set_option maxHeartbeats 0 in
theorem PySem.Challenge.cw_stepsagain_k02_words_and_distances_holds : PySem.Challenge.rw_stepsagain_k02_words_and_distances.Holds := by
  w_on; o_law; k_head; (case hw => w_witness2)
  k_fill
  refine Stp.walk (l := PySem.Challenge.rw_stepsagain_k02_words_and_distances) rfl rfl (fun w h Y => PySem.W.kIn_of Y) ?F
  case F =>
    intro w mg fa h KX G hmg
    refine' Stp.all_mk KX G hmg ?aP ?lP ?cP ?kP ?aN ?lN ?cN ?kN ?aD ?lD ?cD ?kD ?aI ?lI ?cI ?kI ?aB ?lB ?cB ?kB ?aW ?lW ?cW ?kW ?aDi ?lDi ?cDi ?kDi ?aA ?lA ?cA ?kA ?aDw ?lDw ?cDw ?kDw ?aE ?lE ?cE ?kE ?aFr ?lFr ?cFr ?kFr ?aL ?lL ?cL ?kL ?z_list ?z_int ?z_len ?z_isinstance ?z_bool ?z_tuple ?z_all ?z_range ?z_enumerate ?z_min ?z_dict ?z_repr ?c_MAX_WORD
    (case aP => k_is)
    (case lP => k_is)
    (case cP => k_is)
    (case kP => k_is)
    (case aN => k_is)
    (case lN => k_is)
    (case cN => k_is)
    (case kN => k_is)
    (case aD => k_is)
    (case lD => k_is)
    (case cD => k_is)
    (case kD => k_is)
    (case aI => k_is)
    (case lI => k_is)
    (case cI => k_is)
    (case kI => k_is)
    (case aB => k_is)
    (case lB => k_is)
    (case cB => k_is)
    (case kB => k_is)
    (case aW => k_is)
    (case lW => k_is)
    (case cW => k_is)
    (case kW => k_is)
    (case aDi => k_is)
    (case lDi => k_is)
    (case cDi => k_is)
    (case kDi => k_is)
    (case aA => k_is)
    (case lA => k_is)
    (case cA => k_is)
    (case kA => k_is)
    (case aDw => k_is)
    (case lDw => k_is)
    (case cDw => k_is)
    (case kDw => k_is)
    (case aE => k_is)
    (case lE => k_is)
    (case cE => k_is)
    (case kE => k_is)
    (case aFr => k_is)
    (case lFr => k_is)
    (case cFr => k_is)
    (case kFr => k_is)
    (case aL => k_is)
    (case lL => k_is)
    (case cL => k_is)
    (case kL => k_is)
    (case z_list => k_is)
    (case z_int => k_is)
    (case z_len => k_is)
    (case z_isinstance => k_is)
    (case z_bool => k_is)
    (case z_tuple => k_is)
    (case z_all => k_is)
    (case z_range => k_is)
    (case z_enumerate => k_is)
    (case z_min => k_is)
    (case z_dict => k_is)
    (case z_repr => k_is)
    (case c_MAX_WORD => k_is)
