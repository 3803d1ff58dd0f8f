import PyProof.Rows.All
import Wide.All
import OpenK.AllK
import Wide.FinOn
import HandS.ForMost
import HandS.ForExc
import HandS.Nested
import HandS.CallSlots
import HandS.IsInst
import HandS.TupAny
import HandS.TupMul
import HandS.Deep
import HandS.Comp
import PyProof.ListMulRoad
import PyProof.FactsAll.tuple_2
import HandS.WordsDict
import HandS.Iter
import HandS.NoneIn
import PyProof.AutoSeq1
import HandS.TupLen
import HandS.Conv
import HandS.ClsMeth
import HandS.Property
import HandS.OwnEq
import PyProof.InstNe
import KE.KExcIs
import HandS.Lambda
import HandS.ExcOwn
import PyProof.ReprRoads
import HandS.EndTab
import HandS.Star
import HandS.Head0
import HandS.Head1
import HandS.Head2
import HandS.HeadHook1
import HandS.HeadHook2
import HandS.HeadHook3
import HandS.HeadHook4
import HandS.Style
import HandS.Sort
import HandS.SortRule
import KE.KDictDisplayH
import PyProof.ReprBulk
import PyProof.FitsInt
import PySem.Challenge.RW_stepsagain_k47_errors_of_the_same
set_option Elab.async false
set_option linter.all false
set_option maxRecDepth 100000
set_option maxHeartbeats 4000000
/-! what the laws have in common: the pen, shapes of data, heaps that grow -/
namespace Stp
open PySem L2
/-! ### the pen -/
/-- all that was tracked, but for p, is as it was -/
def But (p : Addr) (H H' : Hp) : Prop := ∀ b o, b ≠ p → H b = some o → H' b = some o
theorem But.refl (p : Addr) (H : Hp) : But p H H := fun _ _ _ h => h
theorem But.trans {p : Addr} {H H1 H2 : Hp} (a : But p H H1) (b : But p H1 H2) : But p H H2 := fun c o n h => b c o n (a c o n h)
theorem Same.but {p : Addr} {H H' : Hp} (a : Same H H') : But p H H' := fun c o _ h => a c o h
theorem But.upd {p : Addr} {H H' : Hp} {o : HO} (a : But p H H') : But p H (upd H' p o) := fun c u n h => by
  rw [upd_ne n]
  exact a c u n h
/-- a pen: its cells at c, the number of the next call, the number that remains -/
structure PenIs (H : Hp) (p c : Addr) (cs : List Int) (i : Nat) (r : Int) : Prop where
  pen : H p = some (.lst [.ref c, .int i, .int r])
  cells : H c = some (.lst (cs.map V.int))
  pos : 0 ≤ r
theorem PenIs.ne {H : Hp} {p c : Addr} {cs : List Int} {i : Nat} {r : Int} (P : PenIs H p c cs i r) : c ≠ p := by
  refine ne_of P.cells P.pen fun z => ?_
  injection z with z
  cases cs with
  | nil => cases z
  | cons a l =>
    rw [List.map_cons] at z
    injection z with z1 _
    cases z1
def PenAt (H : Hp) (p c : Addr) (n : Nat) : Prop := ∃ cs i r, PenIs H p c cs i r ∧ i ≤ n
theorem PenAt.same {H H' : Hp} {p c : Addr} {n : Nat} (P : PenAt H p c n) (s : Same H H') : PenAt H' p c n := by
  obtain ⟨cs, i, r, ⟨h1, h2, h3⟩, h4⟩ := P
  exact ⟨cs, i, r, ⟨s _ _ h1, s _ _ h2, h3⟩, h4⟩
theorem PenAt.up {H : Hp} {p c : Addr} {n m : Nat} (P : PenAt H p c n) (s : n ≤ m) : PenAt H p c m := by
  obtain ⟨cs, i, r, h1, h4⟩ := P
  exact ⟨cs, i, r, h1, Nat.le_trans h4 s⟩
theorem PenAt.atP {H : Hp} {p c : Addr} {n : Nat} (P : PenAt H p c n) : ∃ o, H p = some o := by
  obtain ⟨cs, i, r, h, _⟩ := P
  exact ⟨_, h.pen⟩
theorem PenAt.atC {H : Hp} {p c : Addr} {n : Nat} (P : PenAt H p c n) : ∃ o, H c = some o := by
  obtain ⟨cs, i, r, h, _⟩ := P
  exact ⟨_, h.cells⟩
theorem PenAt.neP {H : Hp} {p c a : Addr} {n : Nat} (P : PenAt H p c n) (ha : H a = none) : a ≠ p := by
  obtain ⟨o, h⟩ := P.atP
  exact (ne_of_none h ha).symm
theorem PenAt.neC {H : Hp} {p c a : Addr} {n : Nat} (P : PenAt H p c n) (ha : H a = none) : a ≠ c := by
  obtain ⟨o, h⟩ := P.atC
  exact (ne_of_none h ha).symm
/-- the pen stands while another thing changes -/
theorem PenAt.other {H : Hp} {p c a : Addr} {n : Nat} {o : HO} (P : PenAt H p c n) (h1 : a ≠ p) (h2 : a ≠ c) : PenAt (upd H a o) p c n := by
  obtain ⟨cs, i, r, ⟨k1, k2, k3⟩, h4⟩ := P
  exact ⟨cs, i, r, ⟨by rw [upd_ne h1.symm]; exact k1, by rw [upd_ne h2.symm]; exact k2, k3⟩, h4⟩

def spPen (K : PySem.W.Frag) : Sp := fun vs H Q _ => ∃ (a : Addr) (ns : List Int), vs = [.ref a] ∧ SqL K H a (ns.map V.int) ∧
  ∀ (H' : Hp) (p c : Addr), Same H H' → H p = none → H c = none → PenAt H' p c 0 → Q (.ref p) H'
def spNext : Sp := fun vs H Q _ => ∃ (p c : Addr) (cs : List Int) (i : Nat) (r : Int), vs = [.ref p] ∧ PenIs H p c cs i r ∧ i < 1000000000000 ∧
  ∀ (H' : Hp) (v : Int), But p H H' → PenIs H' p c cs (i + 1) r → 0 ≤ v → Q (.int v) H'
def spDraw : Sp := fun vs H Q _ => ∃ (p c : Addr) (u : Int) (n : Nat), vs = [.ref p, .int u] ∧ PenAt H p c n ∧ n < 1000000000000 ∧ 0 < u ∧ u < 1073741824 ∧
  ∀ (H' : Hp) (d : Int), But p H H' → PenAt H' p c (n + 1) → 0 ≤ d → d < u → Q (.int d) H'
structure PenTxt (mg : Str → Option Value) : Prop where
  list : mg "list" = none
  int : mg "int" = none
  len : mg "len" = none
theorem dp_ints {K : PySem.W.Frag} {H : Hp} : ∀ (cs : List Int), DpAll K H (cs.map V.int) (cs.map PyData.int)
  | [] => .nil
  | a :: l => .cons (.int a) (dp_ints l)
/-- flat data: d of depth at most n that may be laid -/
def Shp (n : Nat) (d : PyData) : Prop := d.canLay0 = true ∧ d.depth ≤ n
theorem Shp.up {n m : Nat} {d : PyData} (h : Shp n d) (l : n ≤ m) : Shp m d := ⟨h.1, Nat.le_trans h.2 l⟩
theorem shp_all {n : Nat} : ∀ {ds : List PyData}, (∀ d ∈ ds, Shp n d) → PyData.canLayAll0 ds = true ∧ PyData.depthAll ds ≤ n
  | [], _ => ⟨by simp only [PyData.canLayAll0], by simp only [PyData.depthAll]; exact Nat.zero_le _⟩
  | d :: ds, h => by
    have h1 := h d (List.mem_cons_self ..)
    have h2 := shp_all (ds := ds) fun e m => h e (List.mem_cons_of_mem _ m)
    refine ⟨?_, ?_⟩
    · simp only [PyData.canLayAll0, h1.1, h2.1, Bool.and_self]
    · simp only [PyData.depthAll]
      exact Nat.max_le.mpr ⟨h1.2, h2.2⟩
theorem Shp.list {n : Nat} {ds : List PyData} (h : ∀ d ∈ ds, Shp n d) : Shp (n + 1) (.list ds) := by
  have q := shp_all h
  refine ⟨?_, ?_⟩
  · simp only [PyData.canLay0, q.1]
  · simp only [PyData.depth]
    exact Nat.succ_le_succ q.2
theorem Shp.tuple {n : Nat} {ds : List PyData} (h : ∀ d ∈ ds, Shp n d) : Shp (n + 1) (.tuple ds) := by
  have q := shp_all h
  refine ⟨?_, ?_⟩
  · simp only [PyData.canLay0, q.1]
  · simp only [PyData.depth]
    exact Nat.succ_le_succ q.2
theorem Shp.int (i : Int) : Shp 0 (.int i) := ⟨by simp only [PyData.canLay0], by simp only [PyData.depth]; exact Nat.le_refl _⟩
theorem Shp.bool (i : Bool) : Shp 0 (.bool i) := ⟨by simp only [PyData.canLay0], by simp only [PyData.depth]; exact Nat.le_refl _⟩
theorem Shp.none : Shp 0 .none := ⟨by simp only [PyData.canLay0], by simp only [PyData.depth]; exact Nat.le_refl _⟩
theorem Shp.ok {n : Nat} {d : PyData} (h : Shp n d) (l : n ≤ 64) : SeqAt.shaped d = true := by
  unfold SeqAt.shaped
  rw [h.1, decide_eq_true (Nat.le_trans h.2 l)] <;> rfl
theorem shp_ints (cs : List Int) : Shp 1 (.list (cs.map PyData.int)) := Shp.list fun d m => by
  obtain ⟨i, _, rfl⟩ := List.mem_map.mp m
  exact Shp.int i
theorem eqv_ints_nil (cs : List Int) : PyData.eqv (.list (cs.map PyData.int)) (.list []) = cs.isEmpty := by
  cases cs <;> rfl
theorem dp_bools {K : PySem.W.Frag} {H : Hp} : ∀ (cs : List Bool), DpAll K H (cs.map V.bl) (cs.map PyData.bool)
  | [] => .nil
  | a :: l => .cons (.bl a) (dp_bools l)
theorem shp_bools (cs : List Bool) : Shp 1 (.list (cs.map PyData.bool)) := Shp.list fun d m => by
  obtain ⟨i, _, rfl⟩ := List.mem_map.mp m
  exact Shp.bool i
/-! rules that are used within a comprehension's block: the written part by name -/
def rLenK (K : PySem.W.Frag) : List V → Hp → VK → Prop := fun xs H Q => ∃ p ys, xs = [.ref p] ∧ (SqL K H p ys ∨ SqT K H p ys) ∧ Q (.int ys.length) H
theorem call_lenK {X : Cx} {K : PySem.W.Frag} (e : X.K = K) : CallR X (.builtin "len") (rLenK K) := by
  subst e
  exact call_len_seq
theorem ix_listK {X : Cx} {K : PySem.W.Frag} (e : X.K = K) : IxR X (rIxL K) := by
  subst e
  exact ix_list
theorem ix_tupK {X : Cx} {K : PySem.W.Frag} (e : X.K = K) : IxR X (rIxT K) := by
  subst e
  exact ix_tup
theorem if_t {c A B : Prop} [Decidable c] (h : c) (a : A) : if c then A else B := by
  rw [if_pos h]
  exact a
theorem if_f {c A B : Prop} [Decidable c] (h : ¬ c) (a : B) : if c then A else B := by
  rw [if_neg h]
  exact a
theorem take_more {α : Type} : ∀ {l : List α} {i : Nat} {x : α}, l[i]? = some x → l.take (i + 1) = l.take i ++ [x]
  | [], i, x, h => by simp at h
  | a :: l, 0, x, h => by
    cases h
    rfl
  | a :: l, i + 1, x, h => by
    have ih := take_more (l := l) (i := i) (x := x) h
    rw [List.take_succ_cons, List.take_succ_cons, ih]
    rfl
theorem same_new {H : Hp} {p : Addr} {o : HO} (h : H p = none) : Same H (upd H p o) := fun b u e => by
  rw [upd_ne (ne_of_none e h)]
  exact e
theorem same_mut {H H1 : Hp} {p : Addr} {o : HO} (s : Same H H1) (h : H p = none) : Same H (upd H1 p o) := fun b u e => by
  rw [upd_ne (ne_of_none e h)]
  exact s _ _ e
end Stp
set_option Elab.async false
set_option linter.all false
set_option maxRecDepth 100000
set_option maxHeartbeats 4000000
/-! trees of data, runs as trees of draws, how trees stand in the heap -/
namespace Pu
open PySem L2 Stp NdefX
open PyProof.Rows hiding St
inductive D where
  | non | bl (b : Bool) | int (i : Int) | str (x : Str)
  | tup (xs : List D) | lst (xs : List D)
  | dK (kvs : List (Key × D)) | dT (kvs : List (List Key × D))
  | obj (c : Nat) (fs : List (Str × D))
  | exc (c : Nat) (fs : List (Str × D))
  | fn (id : Nat) (cap : List D)
  | ty (n : String) | cls (c : Nat) | pen | scr | wt (xs : List D)
inductive T (α : Type) where
  | ret (a : α) | ex (e : D) | draw (u : Nat) (k : Nat → T α) | fail
namespace T
variable {α β γ : Type}
def bind : T α → (α → T β) → T β
  | .ret a, f => f a
  | .ex e, _ => .ex e
  | .draw u k, f => .draw u fun d => (k d).bind f
  | .fail, _ => .fail
/-- what follows either way -/
def bindX : T α → (α → T β) → (D → T β) → T β
  | .ret a, f, _ => f a
  | .ex e, _, g => g e
  | .draw u k, f, g => .draw u fun d => (k d).bindX f g
  | .fail, _, _ => .fail
def cap : Nat := 1000000000000
def wp : T α → Nat → (α → Nat → Prop) → (D → Nat → Prop) → Prop
  | .ret a, n, Q, _ => Q a n
  | .ex e, n, _, E => E e n
  | .draw u k, n, Q, E => 0 < u ∧ u < 1073741824 ∧ n < cap ∧ ∀ d, d < u → wp (k d) (n + 1) Q E
  | .fail, _, _, _ => False
theorem wp_mono {Q Q' : α → Nat → Prop} {E E' : D → Nat → Prop} : ∀ {t : T α} {n : Nat}, t.wp n Q E → (∀ a m, n ≤ m → Q a m → Q' a m) → (∀ e m, n ≤ m → E e m → E' e m) → t.wp n Q' E'
  | .ret a, n, h, hq, _ => hq a n (Nat.le_refl _) h
  | .ex e, n, h, _, he => he e n (Nat.le_refl _) h
  | .draw u k, n, h, hq, he => ⟨h.1, h.2.1, h.2.2.1, fun d hd => wp_mono (h.2.2.2 d hd) (fun a m l => hq a m (Nat.le_of_succ_le l)) (fun a m l => he a m (Nat.le_of_succ_le l))⟩
  | .fail, _, h, _, _ => h.elim
theorem wp_bind {Q : β → Nat → Prop} {E : D → Nat → Prop} {f : α → T β} : ∀ {t : T α} {n : Nat}, (t.bind f).wp n Q E → t.wp n (fun a m => (f a).wp m Q E) E
  | .ret _, _, h => h
  | .ex _, _, h => h
  | .draw _ _, _, h => ⟨h.1, h.2.1, h.2.2.1, fun d hd => wp_bind (h.2.2.2 d hd)⟩
  | .fail, _, h => h.elim
theorem bind_wp {Q : β → Nat → Prop} {E : D → Nat → Prop} {f : α → T β} : ∀ {t : T α} {n : Nat}, t.wp n (fun a m => (f a).wp m Q E) E → (t.bind f).wp n Q E
  | .ret _, _, h => h
  | .ex _, _, h => h
  | .draw _ _, _, h => ⟨h.1, h.2.1, h.2.2.1, fun d hd => bind_wp (h.2.2.2 d hd)⟩
  | .fail, _, h => h.elim
theorem wp_bindX {Q : β → Nat → Prop} {E : D → Nat → Prop} {f : α → T β} {g : D → T β} : ∀ {t : T α} {n : Nat}, (t.bindX f g).wp n Q E → t.wp n (fun a m => (f a).wp m Q E) (fun e m => (g e).wp m Q E)
  | .ret _, _, h => h
  | .ex _, _, h => h
  | .draw _ _, _, h => ⟨h.1, h.2.1, h.2.2.1, fun d hd => wp_bindX (h.2.2.2 d hd)⟩
  | .fail, _, h => h.elim
theorem bindX_wp {Q : β → Nat → Prop} {E : D → Nat → Prop} {f : α → T β} {g : D → T β} : ∀ {t : T α} {n : Nat}, t.wp n (fun a m => (f a).wp m Q E) (fun e m => (g e).wp m Q E) → (t.bindX f g).wp n Q E
  | .ret _, _, h => h
  | .ex _, _, h => h
  | .draw _ _, _, h => ⟨h.1, h.2.1, h.2.2.1, fun d hd => bindX_wp (h.2.2.2 d hd)⟩
  | .fail, _, h => h.elim
end T
/-! ### how a tree stands in the heap -/
/-- a caught exception that is kept -/
def ExcO (a A : Addr) (dx : Option Addr) : HO := .ext fun h => ∃ o vs, h.get? a = some o ∧ o.data = .fields vs ∧ Zc (.ref A) dx o
structure GC where
  K : PySem.W.Frag
  cA : Nat → Option Addr
  T : List NTab
  fnP : Nat → Addr → Hp → List V → Prop
  fnS : ∀ id f H H' vs, fnP id f H vs → (∀ a φ, H a = some (.ext φ) → H' a = some (.ext φ)) → fnP id f H' vs
structure Cf where
  F : Addr → Prop
  pen : Option (Addr × Addr)
  /-- the object that an __init__ is making: its place, its class, its dict -/
  me : Option (Addr × Addr × Addr)
def Cf.pa (C : Cf) : List Addr := match C.pen with
  | some (p, c) => [p, c]
  | none => []
/-- with every list, for a look -/
def Cf.vw (C : Cf) (b : Bool) : Cf := ⟨fun a => C.F a ∨ (b = true ∧ a ∉ C.pa), C.pen, C.me⟩
def noTbl (o : HO) : Prop := ∀ ps, o ≠ .tbl ps
mutual
inductive Rep (G : GC) (C : Cf) (H : Hp) : V → D → Prop
  | non : Rep G C H .non .non
  | bl (b : Bool) : Rep G C H (.bl b) (.bl b)
  | int (i : Int) : Rep G C H (.int i) (.int i)
  | str (x : Str) : Rep G C H (.str x) (.str x)
  | tup {a : Addr} {vs : List V} {ds : List D} : H a = some (.tup vs) → RepL G C H vs ds → Rep G C H (.ref a) (.tup ds)
  | wt {a : Addr} {vs : List V} {ds : List D} : SqT G.K (fun _ => none) a vs → RepL G C H vs ds → Rep G C H (.ref a) (.wt ds)
  | lst {a : Addr} {vs : List V} {ds : List D} : C.F a → H a = some (.lst vs) → RepL G C H vs ds → Rep G C H (.ref a) (.lst ds)
  | dK {a : Addr} {vs : List (Key × V)} {ds : List (Key × D)} : C.F a → H a = some (.dK vs) → RepK G C H vs ds → Rep G C H (.ref a) (.dK ds)
  | dT {a : Addr} {vs : List (List Key × V)} {ds : List (List Key × D)} : C.F a → H a = some (.dT vs) → RepT G C H vs ds → Rep G C H (.ref a) (.dT ds)
  | obj {a A dx : Addr} {c : Nat} {vs : List (Str × V)} {ds : List (Str × D)} : C.F a → H a = some (.ins A dx vs) → G.cA c = some A → RepF G C H vs ds → Rep G C H (.ref a) (.obj c ds)
  | exc {a A : Addr} {c : Nat} : H a = some (ExcO a A none) → G.cA c = some A → Rep G C H (.ref a) (.exc c [])
  | fn {f : Addr} {id : Nat} {vs : List V} {ds : List D} : G.fnP id f H vs → RepL G C H vs ds → Rep G C H (.ref f) (.fn id ds)
  | ty (n : String) : Rep G C H (.ty n) (.ty n)
  | cls {a : Addr} {c : Nat} : G.cA c = some a → Rep G C H (.ref a) (.cls c)
  | pen {p c : Addr} : C.pen = some (p, c) → Rep G C H (.ref p) .pen
  | scr {a : Addr} {ns : List Int} : (∃ o, H a = some (.frz o (.lst (ns.map V.int)))) → Rep G C H (.ref a) .scr
inductive RepL (G : GC) (C : Cf) (H : Hp) : List V → List D → Prop
  | nil : RepL G C H [] []
  | cons {v : V} {vs : List V} {d : D} {ds : List D} : Rep G C H v d → RepL G C H vs ds → RepL G C H (v :: vs) (d :: ds)
inductive RepK (G : GC) (C : Cf) (H : Hp) : List (Key × V) → List (Key × D) → Prop
  | nil : RepK G C H [] []
  | cons {k : Key} {v : V} {vs : List (Key × V)} {d : D} {ds : List (Key × D)} : Rep G C H v d → RepK G C H vs ds → RepK G C H ((k, v) :: vs) ((k, d) :: ds)
inductive RepT (G : GC) (C : Cf) (H : Hp) : List (List Key × V) → List (List Key × D) → Prop
  | nil : RepT G C H [] []
  | cons {k : List Key} {v : V} {vs : List (List Key × V)} {d : D} {ds : List (List Key × D)} : Rep G C H v d → RepT G C H vs ds → RepT G C H ((k, v) :: vs) ((k, d) :: ds)
inductive RepF (G : GC) (C : Cf) (H : Hp) : List (Str × V) → List (Str × D) → Prop
  | nil : RepF G C H [] []
  | cons {k : Str} {v : V} {vs : List (Str × V)} {d : D} {ds : List (Str × D)} : Rep G C H v d → RepF G C H vs ds → RepF G C H ((k, v) :: vs) ((k, d) :: ds)
end
/-- what frozen things lean on stays -/
structure Nx (C C' : Cf) (H H' : Hp) : Prop where
  fk : ∀ a o, C.F a → H a = some o → noTbl o → C'.F a ∧ H' a = some o
  tp : ∀ a xs, H a = some (.tup xs) → H' a = some (.tup xs)
  fp : ∀ a o u, H a = some (.frz o u) → H' a = some (.frz o u)
  xp : ∀ a φ, H a = some (.ext φ) → H' a = some (.ext φ)
  pn : ∀ q, C.pen = some q → C'.pen = some q
theorem sqT_wt {K : PySem.W.Frag} {H : Hp} {a : Addr} {vs : List V} (h : SqT K (fun _ => none) a vs) : SqT K H a vs := by
  rcases h with (h | ⟨o, h⟩) | h
  · cases h
  · cases h
  · exact .inr h
section
variable {G : GC} {C C' : Cf} {H H' : Hp}
mutual
theorem Rep.nx (n : Nx C C' H H') : ∀ {v : V} {d : D}, Rep G C H v d → Rep G C' H' v d
  | _, _, .non => .non
  | _, _, .bl b => .bl b
  | _, _, .int i => .int i
  | _, _, .str x => .str x
  | _, _, .tup h l => .tup (n.tp _ _ h) (RepL.nx n l)
  | _, _, .wt h l => .wt h (RepL.nx n l)
  | _, _, .lst f h l => .lst (n.fk _ _ f h (fun _ z => nomatch z)).1 (n.fk _ _ f h (fun _ z => nomatch z)).2 (RepL.nx n l)
  | _, _, .dK f h l => .dK (n.fk _ _ f h (fun _ z => nomatch z)).1 (n.fk _ _ f h (fun _ z => nomatch z)).2 (RepK.nx n l)
  | _, _, .dT f h l => .dT (n.fk _ _ f h (fun _ z => nomatch z)).1 (n.fk _ _ f h (fun _ z => nomatch z)).2 (RepT.nx n l)
  | _, _, .obj f h c l => .obj (n.fk _ _ f h (fun _ z => nomatch z)).1 (n.fk _ _ f h (fun _ z => nomatch z)).2 c (RepF.nx n l)
  | _, _, .exc h c => .exc (n.xp _ _ h) c
  | _, _, .fn h l => .fn (G.fnS _ _ _ _ _ h n.xp) (RepL.nx n l)
  | _, _, .ty x => .ty x
  | _, _, .cls c => .cls c
  | _, _, .pen h => .pen (n.pn _ h)
  | _, _, .scr ⟨o, h⟩ => .scr ⟨o, n.fp _ _ _ h⟩
theorem RepL.nx (n : Nx C C' H H') : ∀ {v : List V} {d : List D}, RepL G C H v d → RepL G C' H' v d
  | _, _, .nil => .nil
  | _, _, .cons h l => .cons (Rep.nx n h) (RepL.nx n l)
theorem RepK.nx (n : Nx C C' H H') : ∀ {v : List (Key × V)} {d : List (Key × D)}, RepK G C H v d → RepK G C' H' v d
  | _, _, .nil => .nil
  | _, _, .cons h l => .cons (Rep.nx n h) (RepK.nx n l)
theorem RepT.nx (n : Nx C C' H H') : ∀ {v : List (List Key × V)} {d : List (List Key × D)}, RepT G C H v d → RepT G C' H' v d
  | _, _, .nil => .nil
  | _, _, .cons h l => .cons (Rep.nx n h) (RepT.nx n l)
theorem RepF.nx (n : Nx C C' H H') : ∀ {v : List (Str × V)} {d : List (Str × D)}, RepF G C H v d → RepF G C' H' v d
  | _, _, .nil => .nil
  | _, _, .cons h l => .cons (Rep.nx n h) (RepF.nx n l)
end
theorem Nx.view (C : Cf) (b : Bool) (H : Hp) : Nx C (C.vw b) H H := ⟨fun _ _ f h _ => ⟨.inl f, h⟩, fun _ _ h => h, fun _ _ _ h => h, fun _ _ h => h, fun _ h => h⟩
theorem Rep.view {v : V} {d : D} (b : Bool) (r : Rep G C H v d) : Rep G (C.vw b) H v d := r.nx (Nx.view C b H)
theorem Nx.unview (C : Cf) (H : Hp) : Nx (C.vw false) C H H := ⟨fun _ _ f h _ => ⟨f.elim id (fun z => nomatch z.1), h⟩, fun _ _ h => h, fun _ _ _ h => h, fun _ _ h => h, fun _ h => h⟩
theorem Rep.unview {v : V} {d : D} (r : Rep G (C.vw false) H v d) : Rep G C H v d := r.nx (Nx.unview C H)
theorem RepL.length {vs : List V} {ds : List D} (r : RepL G C H vs ds) : vs.length = ds.length := by
  induction vs generalizing ds with
  | nil => cases r; rfl
  | cons v vs ih => cases r with | cons _ l => simp [ih l]
theorem RepL.append : ∀ {vs ws : List V} {ds es : List D}, RepL G C H vs ds → RepL G C H ws es → RepL G C H (vs ++ ws) (ds ++ es)
  | _, _, _, _, .nil, s => s
  | _, _, _, _, .cons r t, s => .cons r (RepL.append t s)
theorem RepL.get : ∀ {vs : List V} {ds : List D} {i : Nat} {d : D}, RepL G C H vs ds → ds[i]? = some d → ∃ v, vs[i]? = some v ∧ Rep G C H v d
  | _, _, _, _, .nil, e => by simp at e
  | _, _, 0, _, .cons r _, e => by simp at e; subst e; exact ⟨_, rfl, r⟩
  | _, _, i + 1, x, .cons _ t, e => by
    obtain ⟨u, h1, h2⟩ := RepL.get (i := i) (d := x) t (by simpa using e)
    exact ⟨u, by simpa using h1, h2⟩
theorem RepL.getV : ∀ {vs : List V} {ds : List D} {i : Nat} {v : V}, RepL G C H vs ds → vs[i]? = some v → ∃ d, ds[i]? = some d ∧ Rep G C H v d
  | _, _, _, _, .nil, e => by simp at e
  | _, _, 0, _, .cons r _, e => by simp at e; subst e; exact ⟨_, rfl, r⟩
  | _, _, i + 1, x, .cons _ t, e => by
    obtain ⟨u, h1, h2⟩ := RepL.getV (i := i) (v := x) t (by simpa using e)
    exact ⟨u, by simpa using h1, h2⟩
theorem RepL.take : ∀ {vs : List V} {ds : List D} (n : Nat), RepL G C H vs ds → RepL G C H (vs.take n) (ds.take n)
  | _, _, 0, _ => .nil
  | _, _, _ + 1, .nil => .nil
  | _, _, n + 1, .cons r t => .cons r (RepL.take n t)
theorem RepL.drop : ∀ {vs : List V} {ds : List D} (n : Nat), RepL G C H vs ds → RepL G C H (vs.drop n) (ds.drop n)
  | _, _, 0, r => r
  | _, _, _ + 1, .nil => .nil
  | _, _, n + 1, .cons _ t => RepL.drop n t
theorem RepL.set {v : V} {d : D} (r : Rep G C H v d) : ∀ {vs : List V} {ds : List D} (i : Nat), RepL G C H vs ds → RepL G C H (vs.set i v) (ds.set i d)
  | _, _, _, .nil => .nil
  | _, _, 0, .cons _ t => .cons r t
  | _, _, i + 1, .cons q t => .cons q (RepL.set r i t)
theorem RepL.eraseIdx : ∀ {vs : List V} {ds : List D} (i : Nat), RepL G C H vs ds → RepL G C H (vs.eraseIdx i) (ds.eraseIdx i)
  | _, _, _, .nil => .nil
  | _, _, 0, .cons _ t => t
  | _, _, i + 1, .cons q t => .cons q (RepL.eraseIdx i t)
theorem RepL.reverse : ∀ {vs : List V} {ds : List D}, RepL G C H vs ds → RepL G C H vs.reverse ds.reverse
  | _, _, .nil => .nil
  | _, _, .cons r t => by
    rw [List.reverse_cons, List.reverse_cons]
    exact (RepL.reverse t).append (.cons r .nil)
theorem RepL.nil_iff {vs : List V} {ds : List D} (r : RepL G C H vs ds) : vs = [] ↔ ds = [] := by
  cases r <;> simp
end
/-! ### the state -/
inductive O where
  | fz (d : D) | me (c : Nat) (fs : List (Str × D)) | ls (xs : List D) | dk (kvs : List (Key × D)) | dt (kvs : List (List Key × D)) | ll (xss : List (List D)) | ob (c : Nat) (fs : List (Str × D)) | tl (k : Nat) (ds xs : List D)
def O.toD : O → D
  | .fz d => d
  | .ls xs => .lst xs
  | .dk kvs => .dK kvs
  | .dt kvs => .dT kvs
  | .ll xss => .lst (xss.map .lst)
  | .ob c fs => .obj c fs
  | .tl k ds xs => .tup (ds.set k (.lst xs))
  | .me c fs => .obj c fs
abbrev Env := List (Option O)
inductive OwnL (G : GC) (C : Cf) (H : Hp) : List Addr → List (List D) → Prop
  | nil : OwnL G C H [] []
  | cons {a : Addr} {as : List Addr} {vs : List V} {ds : List D} {dss : List (List D)} : H a = some (.lst vs) → RepL G C H vs ds → OwnL G C H as dss → OwnL G C H (a :: as) (ds :: dss)
inductive OwnR (G : GC) (C : Cf) (H : Hp) : V → O → List Addr → Prop
  | fz {v : V} {d : D} : Rep G C H v d → OwnR G C H v (.fz d) []
  | ls {a : Addr} {vs : List V} {ds : List D} : H a = some (.lst vs) → RepL G C H vs ds → OwnR G C H (.ref a) (.ls ds) [a]
  | dk {a : Addr} {vs : List (Key × V)} {ds : List (Key × D)} : H a = some (.dK vs) → RepK G C H vs ds → OwnR G C H (.ref a) (.dk ds) [a]
  | dt {a : Addr} {vs : List (List Key × V)} {ds : List (List Key × D)} : H a = some (.dT vs) → RepT G C H vs ds → OwnR G C H (.ref a) (.dt ds) [a]
  | ll {a : Addr} {as : List Addr} {dss : List (List D)} : H a = some (.lst (as.map V.ref)) → OwnL G C H as dss → OwnR G C H (.ref a) (.ll dss) (a :: as)
  | ob {a A dx : Addr} {c : Nat} {vs : List (Str × V)} {ds : List (Str × D)} : H a = some (.ins A dx vs) → G.cA c = some A → RepF G C H vs ds → OwnR G C H (.ref a) (.ob c ds) [a]
  | me {a A dx : Addr} {c : Nat} {vs : List (Str × V)} {ds : List (Str × D)} : C.me = some (a, A, dx) → H a = some (.ins A dx vs) → G.cA c = some A → RepF G C H vs ds → OwnR G C H (.ref a) (.me c ds) [a]
  /-- a tuple whose k-th item is a list of one's own -/
  | tl {a b : Addr} {k : Nat} {vs ws : List V} {ds xs : List D} : H a = some (.tup vs) → vs[k]? = some (.ref b) → RepL G C H (vs.set k .non) ds → H b = some (.lst ws) → RepL G C H ws xs → OwnR G C H (.ref a) (.tl k ds xs) [b]
theorem set_back {α : Type} {vs : List α} {k : Nat} {v w : α} (h : vs[k]? = some v) : (vs.set k w).set k v = vs := by
  rw [List.set_set]
  obtain ⟨h1, h2⟩ := List.getElem?_eq_some_iff.mp h
  rw [← h2]
  exact List.set_getElem_self h1
inductive EnvR (G : GC) (C : Cf) (H : Hp) : St → Env → List Addr → Prop
  | nil : EnvR G C H [] [] []
  | skip {s : Option V} {σ : St} {env : Env} {us : List Addr} : EnvR G C H σ env us → EnvR G C H (s :: σ) (none :: env) us
  | has {v : V} {o : O} {us1 us : List Addr} {σ : St} {env : Env} : OwnR G C H v o us1 → EnvR G C H σ env us → EnvR G C H (some v :: σ) (some o :: env) (us1 ++ us)
structure Wf (G : GC) (C : Cf) (n : Nat) (H : Hp) : Prop where
  pen : ∀ p c, C.pen = some (p, c) → PenAt H p c n
  fz : ∀ a, C.F a → (∃ o, H a = some o ∧ noTbl o) ∧ a ∉ C.pa
  tab : TabsN G.T H
structure Step (us : List Addr) (C : Cf) (H : Hp) (C' : Cf) (H' : Hp) : Prop where
  kp : ∀ a o, H a = some o → noTbl o → a ∉ us → a ∉ C.pa → H' a = some o
  al : ∀ a o, H a = some o → ∃ o', H' a = some o'
  nx : Nx C C' H H'
  fn : ∀ a, C'.F a → C.F a ∨ a ∈ us ∨ H a = none
  pf : ∀ a, a ∈ C'.pa → a ∈ C.pa ∨ H a = none
  me : C'.me = C.me
theorem Nx.refl (C : Cf) (H : Hp) : Nx C C H H := ⟨fun _ _ f h _ => ⟨f, h⟩, fun _ _ h => h, fun _ _ _ h => h, fun _ _ h => h, fun _ h => h⟩
theorem Nx.trans {C C1 C2 : Cf} {H H1 H2 : Hp} (a : Nx C C1 H H1) (b : Nx C1 C2 H1 H2) : Nx C C2 H H2 :=
  ⟨fun x o f h t => b.fk x o (a.fk x o f h t).1 (a.fk x o f h t).2 t, fun x xs h => b.tp x xs (a.tp x xs h), fun x o u h => b.fp x o u (a.fp x o u h), fun x φ h => b.xp x φ (a.xp x φ h), fun q h => b.pn q (a.pn q h)⟩
theorem Step.refl (us : List Addr) (C : Cf) (H : Hp) : Step us C H C H := ⟨fun _ _ h _ _ _ => h, fun _ o h => ⟨o, h⟩, Nx.refl C H, fun _ h => .inl h, fun _ h => .inl h, rfl⟩
theorem Step.trans {us us' : List Addr} {C C1 C2 : Cf} {H H1 H2 : Hp} (a : Step us C H C1 H1) (b : Step us' C1 H1 C2 H2) (hu : ∀ x ∈ us', x ∈ us ∨ H x = none) : Step us C H C2 H2 := by
  have back : ∀ x, H1 x = none → H x = none := fun x h => by
    cases e : H x with
    | none => rfl
    | some o =>
      obtain ⟨o', h'⟩ := a.al x o e
      rw [h'] at h
      cases h
  refine ⟨fun x o h t h1 h2 => ?_, fun x o h => ?_, a.nx.trans b.nx, fun x h => ?_, fun x h => ?_, b.me.trans a.me⟩
  · refine b.kp x o (a.kp x o h t h1 h2) t (fun z => ?_) (fun z => ?_)
    · rcases hu x z with z | z
      · exact h1 z
      · rw [h] at z; cases z
    · rcases a.pf x z with z | z
      · exact h2 z
      · rw [h] at z; cases z
  · obtain ⟨o', h'⟩ := a.al x o h
    exact b.al x o' h'
  · rcases b.fn x h with z | z | z
    · exact a.fn x z
    · exact .inr (hu x z)
    · exact .inr (.inr (back x z))
  · rcases b.pf x h with z | z
    · exact a.pf x z
    · exact .inr (back x z)
theorem Step.up {us us' : List Addr} {C C' : Cf} {H H' : Hp} (a : Step us C H C' H') (hu : ∀ x ∈ us, x ∈ us') : Step us' C H C' H' :=
  ⟨fun x o h t h1 h2 => a.kp x o h t (fun z => h1 (hu x z)) h2, a.al, a.nx, fun x h => (a.fn x h).elim .inl fun z => z.elim (fun y => .inr (.inl (hu x y))) fun y => .inr (.inr y), a.pf, a.me⟩
structure Ok (G : GC) (C : Cf) (n : Nat) (σ : St) (env : Env) (us : List Addr) (H : Hp) : Prop where
  wf : Wf G C n H
  env : EnvR G C H σ env us
  nd : us.Nodup
  us : ∀ a ∈ us, ¬ C.F a ∧ a ∉ C.pa ∧ ∃ o, H a = some o ∧ noTbl o
section
variable {G : GC} {C C' : Cf} {H H' : Hp}
theorem OwnL.nx (n : Nx C C' H H') : ∀ {as : List Addr} {ds : List (List D)}, OwnL G C H as ds → (∀ a ∈ as, ∀ o, H a = some o → H' a = some o) → OwnL G C' H' as ds
  | _, _, .nil, _ => .nil
  | _, _, .cons h r l, k => .cons (k _ (List.mem_cons_self ..) _ h) (r.nx n) (OwnL.nx n l fun a m => k a (List.mem_cons_of_mem _ m))
theorem OwnR.nx (n : Nx C C' H H') (hm : C'.me = C.me) {v : V} {o : O} {us : List Addr} (r : OwnR G C H v o us) (k : ∀ a ∈ us, ∀ o, H a = some o → H' a = some o) : OwnR G C' H' v o us := by
  cases r with
  | fz h => exact .fz (h.nx n)
  | ls h l => exact .ls (k _ (List.mem_cons_self ..) _ h) (l.nx n)
  | dk h l => exact .dk (k _ (List.mem_cons_self ..) _ h) (l.nx n)
  | dt h l => exact .dt (k _ (List.mem_cons_self ..) _ h) (l.nx n)
  | ll h l => exact .ll (k _ (List.mem_cons_self ..) _ h) (l.nx n fun a m => k a (List.mem_cons_of_mem _ m))
  | ob h c l => exact .ob (k _ (List.mem_cons_self ..) _ h) c (l.nx n)
  | me e h c l => exact .me (hm.trans e) (k _ (List.mem_cons_self ..) _ h) c (l.nx n)
  | tl h e l hb q => exact .tl (n.tp _ _ h) e (l.nx n) (k _ (List.mem_cons_self ..) _ hb) (q.nx n)
theorem EnvR.nx (n : Nx C C' H H') (hm : C'.me = C.me) : ∀ {σ : St} {env : Env} {us : List Addr}, EnvR G C H σ env us → (∀ a ∈ us, ∀ o, H a = some o → H' a = some o) → EnvR G C' H' σ env us
  | _, _, _, .nil, _ => .nil
  | _, _, _, .skip r, k => .skip (EnvR.nx n hm r k)
  | _, _, _, .has r q, k => .has (r.nx n hm fun a m => k a (List.mem_append_left _ m)) (EnvR.nx n hm q fun a m => k a (List.mem_append_right _ m))
/-- a quiet step -/
theorem Ok.q {n n' : Nat} {σ : St} {env : Env} {us : List Addr} (k : Ok G C n σ env us H) (s : Step [] C H C' H') (w : Wf G C' n' H') : Ok G C' n' σ env us H' := by
  have keep : ∀ a ∈ us, ∀ o, H a = some o → H' a = some o := fun a m o h => by
    obtain ⟨_, h2, o', h3, h4⟩ := k.us a m
    rw [h] at h3
    cases h3
    exact s.kp a o h h4 (by simp) h2
  refine ⟨w, k.env.nx s.nx s.me keep, k.nd, fun a m => ?_⟩
  obtain ⟨h1, h2, o, h3, h4⟩ := k.us a m
  refine ⟨fun z => ?_, fun z => ?_, o, keep a m o h3, h4⟩
  · rcases s.fn a z with y | y | y
    · exact h1 y
    · cases y
    · rw [h3] at y; cases y
  · rcases s.pf a z with y | y
    · exact h2 y
    · rw [h3] at y; cases y
theorem EnvR.len : ∀ {σ : St} {env : Env} {us : List Addr}, EnvR G C H σ env us → σ.length = env.length
  | _, _, _, .nil => rfl
  | _, _, _, .skip r => congrArg (· + 1) (EnvR.len r)
  | _, _, _, .has _ r => congrArg (· + 1) (EnvR.len r)
theorem EnvR.at : ∀ {σ : St} {env : Env} {us : List Addr} {i : Nat} {o : O}, EnvR G C H σ env us → env[i]? = some (some o) → ∃ v us1, σ[i]? = some (some v) ∧ OwnR G C H v o us1 ∧ ∀ a ∈ us1, a ∈ us
  | _, _, _, _, _, .nil, e => by simp at e
  | _, _, _, 0, _, .skip _, e => by simp at e
  | _, _, _, i + 1, o, .skip r, e => by
    obtain ⟨v, us1, h1, h2, h3⟩ := EnvR.at (i := i) (o := o) r (by simpa using e)
    exact ⟨v, us1, by simpa using h1, h2, h3⟩
  | _, _, _, 0, o, .has r _, e => by
    simp at e
    subst e
    exact ⟨_, _, rfl, r, fun a m => List.mem_append_left _ m⟩
  | _, _, _, i + 1, o, .has _ r, e => by
    obtain ⟨v, us1, h1, h2, h3⟩ := EnvR.at (i := i) (o := o) r (by simpa using e)
    exact ⟨v, us1, by simpa using h1, h2, fun a m => List.mem_append_right _ (h3 a m)⟩
/-- a slot gets a frozen thing -/
theorem EnvR.put {d : D} {v : V} (rv : Rep G C H v d) : ∀ {σ : St} {env : Env} {us : List Addr} (i : Nat), EnvR G C H σ env us → ∃ us', EnvR G C H (σ.set i (some v)) (env.set i (some (.fz d))) us' ∧ us'.Sublist us
  | _, _, _, _, .nil => ⟨[], .nil, List.Sublist.refl _⟩
  | _, _, _, 0, .skip r => ⟨_, .has (.fz rv) r, List.Sublist.refl _⟩
  | _, _, _, i + 1, .skip r => by
    obtain ⟨us', h1, h2⟩ := EnvR.put rv i r
    exact ⟨us', .skip h1, h2⟩
  | _, _, _, 0, .has (us1 := us1) (us := us) _ r => ⟨us, .has (.fz rv) r, List.sublist_append_right us1 us⟩
  | _, _, _, i + 1, .has q r => by
    obtain ⟨us', h1, h2⟩ := EnvR.put rv i r
    exact ⟨_, .has q h1, h2.append_left _⟩
theorem EnvR.wipe : ∀ {σ : St} {env : Env} {us : List Addr} (i : Nat) (s : Option V), EnvR G C H σ env us → ∃ us', EnvR G C H (σ.set i s) (env.set i none) us' ∧ us'.Sublist us
  | _, _, _, _, _, .nil => ⟨[], .nil, List.Sublist.refl _⟩
  | _, _, _, 0, _, .skip r => ⟨_, .skip r, List.Sublist.refl _⟩
  | _, _, _, i + 1, s, .skip r => by
    obtain ⟨us', h1, h2⟩ := EnvR.wipe i s r
    exact ⟨us', .skip h1, h2⟩
  | _, _, _, 0, _, .has (us1 := us1) (us := us) _ r => ⟨_, .skip r, List.sublist_append_right us1 us⟩
  | _, _, _, i + 1, s, .has q r => by
    obtain ⟨us', h1, h2⟩ := EnvR.wipe i s r
    exact ⟨_, .has q h1, h2.append_left _⟩
theorem Ok.sub {n : Nat} {σ σ' : St} {env env' : Env} {us us' : List Addr} (k : Ok G C n σ env us H) (e : EnvR G C H σ' env' us') (s : us'.Sublist us) : Ok G C n σ' env' us' H :=
  ⟨k.wf, e, k.nd.sublist s, fun a m => k.us a (s.subset m)⟩
theorem Ok.put {n : Nat} {σ : St} {env : Env} {us : List Addr} {d : D} {v : V} (k : Ok G C n σ env us H) (rv : Rep G C H v d) (i : Nat) : ∃ us', Ok G C n (σ.set i (some v)) (env.set i (some (.fz d))) us' H ∧ ∀ a ∈ us', a ∈ us := by
  obtain ⟨us', h1, h2⟩ := k.env.put rv i
  exact ⟨us', k.sub h1 h2, fun a m => h2.subset m⟩
end
theorem Step.vw {C C' : Cf} {H H' : Hp} (s : Step [] C H C' H') (b : Bool) : Nx (C.vw b) (C'.vw b) H H' := by
  refine ⟨fun a o f h t => ?_, s.nx.tp, s.nx.fp, s.nx.xp, s.nx.pn⟩
  rcases f with f | ⟨f1, f2⟩
  · exact ⟨.inl (s.nx.fk a o f h t).1, (s.nx.fk a o f h t).2⟩
  · refine ⟨.inr ⟨f1, fun z => ?_⟩, s.kp a o h t (by simp) f2⟩
    rcases s.pf a z with y | y
    · exact f2 y
    · rw [h] at y; cases y
/-! ### new objects -/
section
variable {G : GC} {C : Cf} {H : Hp}
/-- the new thing at p is frozen from its birth -/
def Cf.add (C : Cf) (p : Addr) : Cf := ⟨fun a => a = p ∨ C.F a, C.pen, C.me⟩
theorem pa_add {p : Addr} : (C.add p).pa = C.pa := rfl
theorem step_new {p : Addr} {o : HO} (hp : H p = none) : Step [] C H (C.add p) (upd H p o) := by
  have k : ∀ a u, H a = some u → upd H p o a = some u := fun a u h => by rw [upd_ne (ne_of_none h hp)]; exact h
  exact ⟨fun a u h _ _ _ => k a u h, fun a u h => ⟨u, k a u h⟩, ⟨fun a u f h _ => ⟨.inr f, k a u h⟩, fun a xs h => k a _ h, fun a u x h => k a _ h, fun a φ h => k a _ h, fun _ h => h⟩,
    fun a h => h.elim (fun z => .inr (.inr (by rw [z]; exact hp))) .inl, fun a h => .inl h, rfl⟩
theorem step_tup {p : Addr} {o : HO} (hp : H p = none) : Step [] C H C (upd H p o) := by
  have k : ∀ a u, H a = some u → upd H p o a = some u := fun a u h => by rw [upd_ne (ne_of_none h hp)]; exact h
  exact ⟨fun a u h _ _ _ => k a u h, fun a u h => ⟨u, k a u h⟩, ⟨fun a u f h _ => ⟨f, k a u h⟩, fun a xs h => k a _ h, fun a u x h => k a _ h, fun a φ h => k a _ h, fun _ h => h⟩, fun a h => .inl h, fun a h => .inl h, rfl⟩
theorem Wf.pne {n : Nat} (w : Wf G C n H) {p : Addr} (hp : H p = none) : p ∉ C.pa := fun z => by
  unfold Cf.pa at z
  cases e : C.pen with
  | none => rw [e] at z; cases z
  | some q =>
    obtain ⟨a, c⟩ := q
    rw [e] at z
    have P := w.pen a c e
    rcases List.mem_cons.mp z with z | z
    · exact P.neP hp z
    · exact P.neC hp (List.mem_singleton.mp z)
theorem Wf.new {n : Nat} (w : Wf G C n H) {p : Addr} {o : HO} (hp : H p = none) (t : noTbl o) : Wf G (C.add p) n (upd H p o) := by
  refine ⟨fun a c e => (w.pen a c e).same (same_new hp), fun a h => ?_, w.tab.ext (same_new hp)⟩
  rcases h with h | h
  · rw [h]
    exact ⟨⟨o, upd_same, t⟩, w.pne hp⟩
  · obtain ⟨⟨u, h1, h2⟩, h3⟩ := w.fz a h
    exact ⟨⟨u, same_new hp _ _ h1, h2⟩, h3⟩
theorem Wf.tup {n : Nat} (w : Wf G C n H) {p : Addr} {o : HO} (hp : H p = none) : Wf G C n (upd H p o) := by
  refine ⟨fun a c e => (w.pen a c e).same (same_new hp), fun a h => ?_, w.tab.ext (same_new hp)⟩
  obtain ⟨⟨u, h1, h2⟩, h3⟩ := w.fz a h
  exact ⟨⟨u, same_new hp _ _ h1, h2⟩, h3⟩
end
end Pu
set_option Elab.async false
set_option linter.all false
set_option maxRecDepth 100000
set_option maxHeartbeats 4000000
namespace Pu
open PySem L2 Stp NdefX
open PyProof.Rows hiding St
theorem PE.imp {X : Cx} {e : Expr} {t t' : TE} (h : PE X e t) (k : ∀ σ H Q, t' σ H Q → t σ H Q) : PE X e t' := ⟨fun pins s σ H Q I hw => h.run pins s σ H Q I (k σ H Q hw)⟩
theorem PT.imp {X : Cx} {e : Expr} {t t' : TT} (h : PT X e t) (k : ∀ σ H Q, t' σ H Q → t σ H Q) : PT X e t' := ⟨fun pins s σ H Q I hw => h.run pins s σ H Q I (k σ H Q hw)⟩
theorem PW.imp {X : Cx} {e : Expr} {t t' : TT} (h : PW X e t) (k : ∀ σ H Q, t' σ H Q → t σ H Q) : PW X e t' := ⟨fun wh pins s σ H Q I hw => h.run wh pins s σ H Q I (k σ H Q hw)⟩
theorem PA.imp {X : Cx} {e : List Expr} {t t' : TA} (h : PA X e t) (k : ∀ σ H Q, t' σ H Q → t σ H Q) : PA X e t' := ⟨fun pos pins s σ H Q I hw => h.run pos pins s σ H Q I (k σ H Q hw)⟩
theorem PS.imp {X : Cx} {e : Stmt} {t t' : TS} (h : PS X e t) (k : ∀ D σ H, t' D σ H → t D σ H) : PS X e t' := ⟨fun pins s σ H D I hw => h.run pins s σ H D I (k D σ H hw)⟩
theorem PSs.imp {X : Cx} {e : List Stmt} {t t' : TS} (h : PSs X e t) (k : ∀ D σ H, t' D σ H → t D σ H) : PSs X e t' := ⟨fun pins s σ H D I hw => h.run pins s σ H D I (k D σ H hw)⟩
theorem OpR.or {X : Cx} {f : Value → Value → Sem Value} {r r' : R2} (h : OpR X f r) (h' : OpR X f r') : OpR X f (fun x y H Q => r x y H Q ∨ r' x y H Q) := by
  intro pins s σ H x y v u Q I rx ry q
  rcases q with q | q
  · exact h pins s σ H x y v u Q I rx ry q
  · exact h' pins s σ H x y v u Q I rx ry q
/-- an exception of one's own as it flies -/
def RepX (G : GC) (cls : Value) (dx : Option Addr) (e : D) : Prop := ∃ c A, e = .exc c [] ∧ G.cA c = some A ∧ cls = .ref A ∧ dx = none
abbrev RR (α β : Type) := Cf → Hp → β → α → Prop
/-- the run t, asked at a state -/
structure At {α β : Type} (G : GC) (W : WX) (R : RR α β) (σ : St) (env : Env) (us : List Addr) (C : Cf) (n : Nat) (H : Hp) (t : T α) (Q : β → Hp → Prop) : Prop where
  ok : Ok G C n σ env us H
  wp : t.wp n (fun d n' => ∀ C' H' v, Step [] C H C' H' → Wf G C' n' H' → R C' H' v d → Q v H') (fun e n' => ∀ C' H' cls dx, Step [] C H C' H' → Wf G C' n' H' → RepX G cls dx e → W cls dx σ H')
abbrev rV (G : GC) (b : Bool) : RR D V := fun C H v d => Rep G (C.vw b) H v d
abbrev rA (G : GC) (b : Bool) : RR (List D) (List V) := fun C H v d => RepL G (C.vw b) H v d
abbrev rB : RR Bool Bool := fun _ _ v d => v = d
section
variable {α β γ δ : Type} {G : GC} {W : WX} {R : RR α β} {R' : RR γ δ} {σ : St} {env : Env} {us : List Addr} {C : Cf} {n : Nat} {H : Hp}
theorem At.bind {t : T α} {f : α → T γ} {Q : δ → Hp → Prop} (h : At G W R' σ env us C n H (t.bind f) Q) : At G W R σ env us C n H t (fun v H1 => ∃ C1 n1 d, Step [] C H C1 H1 ∧ R C1 H1 v d ∧ At G W R' σ env us C1 n1 H1 (f d) Q) :=
  ⟨h.ok, T.wp_mono (T.wp_bind h.wp) (fun a m _ k C' H' v s wf r => ⟨C', m, a, s, r, h.ok.q s wf, T.wp_mono k (fun d n' _ z C2 H2 v2 s2 w2 r2 => z C2 H2 v2 (s.trans s2 (by simp)) w2 r2) (fun e n' _ z C2 H2 c2 d2 s2 w2 r2 => z C2 H2 c2 d2 (s.trans s2 (by simp)) w2 r2)⟩) (fun e m _ z => z)⟩
theorem At.ret {a : α} {Q : β → Hp → Prop} (h : At G W R σ env us C n H (.ret a) Q) {v : β} (r : R C H v a) : Q v H := h.wp C H v (Step.refl [] C H) h.ok.wf r
theorem At.retS {a : α} {Q : β → Hp → Prop} (h : At G W R σ env us C n H (.ret a) Q) {C' : Cf} {H' : Hp} {v : β} (s : Step [] C H C' H') (w : Wf G C' n H') (r : R C' H' v a) : Q v H' := h.wp C' H' v s w r
theorem At.no {Q : β → Hp → Prop} (h : At G W R σ env us C n H .fail Q) : False := h.wp
theorem At.imp {t : T α} {Q Q' : β → Hp → Prop} (h : At G W R σ env us C n H t Q) (k : ∀ v H', Q v H' → Q' v H') : At G W R σ env us C n H t Q' :=
  ⟨h.ok, T.wp_mono h.wp (fun a m _ z C' H' v s wf r => k v H' (z C' H' v s wf r)) (fun e m _ z => z)⟩
end
section
variable {G : GC} {W : WX} {b : Bool} {σ : St} {env : Env} {us : List Addr} {C : Cf} {n : Nat} {H : Hp} {Q : VK}
theorem At.newL {ds : List D} {vs : List V} (h : At G W (rV G b) σ env us C n H (.ret (.lst ds)) Q) (r : RepL G C H vs ds) {p : Addr} (hp : H p = none) : Q (.ref p) (upd H p (.lst vs)) := by
  have s := step_new (C := C) (o := .lst vs) hp
  exact h.retS s (h.ok.wf.new hp fun _ z => nomatch z) (.lst (.inl (.inl rfl)) upd_same ((r.nx s.nx).nx (Nx.view _ b _)))
theorem At.newT {ds : List D} {vs : List V} {b' : Bool} (h : At G W (rV G b) σ env us C n H (.ret (.tup ds)) Q) (r : RepL G (C.vw b') H vs ds) (hb : b' = true → b = true) {p : Addr} (hp : H p = none) : Q (.ref p) (upd H p (.tup vs)) := by
  have s := step_tup (C := C) (o := .tup vs) hp
  refine h.retS s (h.ok.wf.tup hp) (.tup upd_same ?_)
  have r2 := r.nx (s.vw b')
  cases b' with
  | false => exact (r2.nx (Nx.unview C _)).nx (Nx.view _ b _)
  | true => rw [hb rfl]; exact r2
end
def tQ (G : GC) (W : WX) (b : Bool) (m : Env → T D) : TE := fun σ H Q => ∃ C n env us, At G W (rV G b) σ env us C n H (m env) Q
def tT (G : GC) (W : WX) (m : Env → T Bool) : TT := fun σ H Q => ∃ C n env us, At G W rB σ env us C n H (m env) Q
def tA (G : GC) (W : WX) (b : Bool) (m : Env → T (List D)) : TA := fun σ H Q => ∃ C n env us, At G W (rA G b) σ env us C n H (m env) Q
/-! ### semantics -/
def grd {α : Type} (c : Prop) [Decidable c] (t : T α) : T α := if c then t else .fail
theorem At.grd {α β : Type} {G : GC} {W : WX} {R : RR α β} {σ : St} {env : Env} {us : List Addr} {C : Cf} {n : Nat} {H : Hp} {c : Prop} [Decidable c] {t : T α} {Q : β → Hp → Prop} (h : At G W R σ env us C n H (grd c t) Q) : c ∧ At G W R σ env us C n H t Q := by
  unfold Pu.grd at h
  by_cases hc : c
  · rw [if_pos hc] at h; exact ⟨hc, h⟩
  · rw [if_neg hc] at h; exact h.no.elim
def qVar (i : Nat) : Env → T D := fun env => match env[i]? with
  | some (some (.fz d)) => .ret d
  | _ => .fail
/-- a look at a name -/
def qLook (i : Nat) : Env → T D := fun env => match env[i]? with
  | some (some o) => .ret o.toD
  | _ => .fail
def qC (d : D) : Env → T D := fun _ => .ret d
def q1 (f : D → T D) (m : Env → T D) : Env → T D := fun env => (m env).bind f
def q2 (f : D → D → T D) (m k : Env → T D) : Env → T D := fun env => (m env).bind fun d => (k env).bind fun e => f d e
def qN (f : List D → T D) (m : Env → T (List D)) : Env → T D := fun env => (m env).bind f
def aNil : Env → T (List D) := fun _ => .ret []
def aCons (m : Env → T D) (k : Env → T (List D)) : Env → T (List D) := fun env => (m env).bind fun d => (k env).bind fun ds => .ret (d :: ds)
def big : Nat := 1000000
section
variable {X : Cx} {G : GC} {W : WX} {b : Bool}
theorem s_var (i : Nat) {x : Str} {pos : Pos} (hN : X.N[i]? = some x := by rfl) (hv : Vis X.env.scope x := by first | exact Or.inl rfl | exact Or.inr (Or.inl rfl) | exact Or.inr (Or.inr rfl)) (hd : (x == ("__debug__" : Str)) = false := by decide)
    (hcd : (x == ("__classdict__" : Str)) = false := by decide) : PE X (.Name x pos) (tQ G W false (qVar i)) := by
  refine PE.imp (pe_var hN hv hd hcd) fun σ H Q h => ?_
  obtain ⟨C, n, env, us, h⟩ := h
  unfold qVar at h
  cases e : env[i]? with
  | none => rw [e] at h; exact h.no.elim
  | some o =>
    cases o with
    | none => rw [e] at h; exact h.no.elim
    | some o =>
      rw [e] at h
      cases o with
      | fz d =>
        obtain ⟨v, us1, h1, h2, h3⟩ := h.ok.env.at e
        cases h2 with
        | fz r => exact ⟨v, h1, h.ret (r.view false)⟩
      | _ => exact h.no.elim
/-- what a name holds, looked at -/
theorem OwnL.rep {G : GC} {C : Cf} {H : Hp} (hu : ∀ a, (∃ o, H a = some o) → a ∉ C.pa) : ∀ {as : List Addr} {ds : List (List D)}, OwnL G C H as ds → RepL G (C.vw true) H (as.map V.ref) (ds.map D.lst)
  | _, _, .nil => .nil
  | _, _, .cons h r l => .cons (.lst (.inr ⟨rfl, hu _ ⟨_, h⟩⟩) h (r.nx (Nx.view C true H))) (OwnL.rep hu l)
theorem OwnL.rep2 {G : GC} {C : Cf} {H : Hp} : ∀ {as : List Addr} {ds : List (List D)}, OwnL G C H as ds → (∀ a ∈ as, a ∉ C.pa) → RepL G (C.vw true) H (as.map V.ref) (ds.map D.lst)
  | _, _, .nil, _ => .nil
  | _, _, .cons h r l, hu => .cons (.lst (.inr ⟨rfl, hu _ (List.mem_cons_self ..)⟩) h (r.nx (Nx.view C true H))) (OwnL.rep2 l fun a m => hu a (List.mem_cons_of_mem _ m))
theorem OwnR.look {G : GC} {C : Cf} {H : Hp} {v : V} {o : O} {us : List Addr} (r : OwnR G C H v o us) (hu : ∀ a ∈ us, a ∉ C.pa) : Rep G (C.vw true) H v o.toD := by
  have nv := Nx.view C true H
  cases r with
  | fz h => exact h.nx nv
  | ls h l => exact .lst (.inr ⟨rfl, hu _ (List.mem_cons_self ..)⟩) h (l.nx nv)
  | dk h l => exact .dK (.inr ⟨rfl, hu _ (List.mem_cons_self ..)⟩) h (l.nx nv)
  | dt h l => exact .dT (.inr ⟨rfl, hu _ (List.mem_cons_self ..)⟩) h (l.nx nv)
  | ll h l => exact .lst (.inr ⟨rfl, hu _ (List.mem_cons_self ..)⟩) h (l.rep2 fun a m => hu a (List.mem_cons_of_mem _ m))
  | ob h c l => exact .obj (.inr ⟨rfl, hu _ (List.mem_cons_self ..)⟩) h c (l.nx nv)
  | me e h c l => exact .obj (.inr ⟨rfl, hu _ (List.mem_cons_self ..)⟩) h c (l.nx nv)
  | @tl a b k vs ws ds xs h e l hb q =>
    have z := RepL.set (C := C.vw true) (Rep.lst (C := C.vw true) (.inr ⟨rfl, hu _ (List.mem_cons_self ..)⟩) hb (q.nx nv)) k (l.nx nv)
    rw [set_back e] at z
    exact .tup h z
theorem s_look (i : Nat) {x : Str} {pos : Pos} (hN : X.N[i]? = some x := by rfl) (hv : Vis X.env.scope x := by first | exact Or.inl rfl | exact Or.inr (Or.inl rfl) | exact Or.inr (Or.inr rfl)) (hd : (x == ("__debug__" : Str)) = false := by decide)
    (hcd : (x == ("__classdict__" : Str)) = false := by decide) : PE X (.Name x pos) (tQ G W true (qLook i)) := by
  refine PE.imp (pe_var hN hv hd hcd) fun σ H Q h => ?_
  obtain ⟨C, n, env, us, h⟩ := h
  unfold qLook at h
  cases e : env[i]? with
  | none => rw [e] at h; exact h.no.elim
  | some o =>
    cases o with
    | none => rw [e] at h; exact h.no.elim
    | some o =>
      rw [e] at h
      obtain ⟨v, us1, h1, h2, h3⟩ := h.ok.env.at e
      exact ⟨v, h1, h.ret (h2.look fun a m => (h.ok.us a (h3 a m)).2.1)⟩
/-- what is frozen may be looked at -/
theorem s_weak {e : Expr} {m : Env → T D} (h : PE X e (tQ G W false m)) : PE X e (tQ G W true m) := by
  refine PE.imp h fun σ H Q k => ?_
  obtain ⟨C, n, env, us, k⟩ := k
  exact ⟨C, n, env, us, k.ok, T.wp_mono k.wp (fun d m _ z C' H' v s w r => z C' H' v s w ((r.nx (Nx.unview C' H')).nx (Nx.view C' true H'))) (fun e m _ z => z)⟩
theorem tQ_c {v : V} {d : D} (hr : ∀ C H, Rep G C H v d) {σ : St} {H : Hp} {Q : VK} (h : tQ G W b (qC d) σ H Q) : tC v σ H Q := by
  obtain ⟨C, n, env, us, h⟩ := h
  exact h.ret (hr _ _)
theorem s_int {i j pos} : PE X (.Constant (.int i) j pos) (tQ G W false (qC (.int i))) := PE.imp pe_int fun σ H Q h => tQ_c (fun _ _ => .int i) h
theorem s_bl {i j pos} : PE X (.Constant (.bool i) j pos) (tQ G W false (qC (.bl i))) := PE.imp pe_bl fun σ H Q h => tQ_c (fun _ _ => .bl i) h
theorem s_non {j pos} : PE X (.Constant .none j pos) (tQ G W false (qC .non)) := PE.imp pe_non fun σ H Q h => tQ_c (fun _ _ => .non) h
theorem s_str {i j pos} : PE X (.Constant (.str i) j pos) (tQ G W false (qC (.str i))) := PE.imp pe_str fun σ H Q h => tQ_c (fun _ _ => .str i) h
theorem s_glob {x : Str} {v : V} {u : Value} {pos : Pos} {d : D} (hg : Gl X x) (hm : X.mg x = some u) (r : RelV v u) (hr : ∀ C H, Rep G C H v d) (hd : (x == ("__debug__" : Str)) = false := by decide) : PE X (.Name x pos) (tQ G W false (qC d)) := PE.imp (pe_glob hg hm r hd) fun σ H Q h => tQ_c hr h
theorem s_ty {x : Str} {T : String} {pos : Pos} (hg : Gl X x) (hm : X.mg x = none) (hv : bootBuiltins x = some (.type T)) (hn : x ≠ "__name__" := by decide) (hd : (x == ("__debug__" : Str)) = false := by decide) : PE X (.Name x pos) (tQ G W false (qC (.ty T))) := PE.imp (pe_bltn (v := .ty T) hg hm hv rfl hn hd) fun σ H Q h => tQ_c (fun _ _ => .ty T) h
/-! argument lists -/
theorem a_nil : PA X [] (tA G W b aNil) := PA.imp pa_nil fun σ H Q h => by
  obtain ⟨C, n, env, us, h⟩ := h
  exact h.ret .nil
theorem a_cons {e : Expr} {es : List Expr} {m : Env → T D} {k : Env → T (List D)} (ha : PE X e (tQ G W b m)) (hr : PA X es (tA G W b k)) (hs : starEach (e :: es) X.env = (false, eval e X.env) :: starEach es X.env := by rfl) : PA X (e :: es) (tA G W b (aCons m k)) := by
  refine PA.imp (pa_cons ha hr hs) fun σ H Q h => ?_
  obtain ⟨C, n, env, us, h⟩ := h
  refine ⟨C, n, env, us, (h.bind (R := rV G b)).imp ?_⟩
  rintro v H1 ⟨C1, n1, d, s1, r1, h1⟩
  refine ⟨C1, n1, env, us, (h1.bind (R := rA G b)).imp ?_⟩
  rintro vs H2 ⟨C2, n2, ds, s2, r2, h2⟩
  exact h2.ret (.cons (r1.nx (s2.vw b)) r2)
theorem s_tup {es : List Expr} {m : Env → T (List D)} {x1} {pos : Pos} (h : PA X es (tA G W b m)) : PE X (.Tuple es x1 pos) (tQ G W b (qN (fun ds => grd (ds.length ≤ big) (.ret (.tup ds))) m)) := by
  refine PE.imp (pe_tup h) fun σ H Q h => ?_
  obtain ⟨C, n, env, us, h⟩ := h
  refine ⟨C, n, env, us, (h.bind (R := rA G b)).imp ?_⟩
  rintro vs H1 ⟨C1, n1, ds, s1, r1, h1⟩
  obtain ⟨hl, h1⟩ := h1.grd
  exact ⟨by rw [r1.length]; exact Nat.le_trans hl (by decide), fun p hp => h1.newT r1 id hp⟩
theorem s_lst {es : List Expr} {m : Env → T (List D)} {pos : Pos} (h : PA X es (tA G W false m)) : PE X (.List es pos) (tQ G W false (qN (fun ds => grd (ds.length ≤ big) (.ret (.lst ds))) m)) := by
  refine PE.imp (pe_lst h) fun σ H Q h => ?_
  obtain ⟨C, n, env, us, h⟩ := h
  refine ⟨C, n, env, us, (h.bind (R := rA G false)).imp ?_⟩
  rintro vs H1 ⟨C1, n1, ds, s1, r1, h1⟩
  obtain ⟨hl, h1⟩ := h1.grd
  exact ⟨by rw [r1.length]; exact Nat.le_trans hl (by decide), fun p hp => h1.newL (r1.nx (Nx.unview _ _)) hp⟩
/-! operators -/
theorem tQ_2 {r : R2} {f : D → D → T D} {ma mb : Env → T D} {b1 b2 : Bool} {σ : St} {H : Hp} {Q : VK} (h : tQ G W b (q2 f ma mb) σ H Q)
    (hf : ∀ env us C n H x y d e Q, Rep G (C.vw b1) H x d → Rep G (C.vw b2) H y e → At G W (rV G b) σ env us C n H (f d e) Q → r x y H Q) : tOp r (tQ G W b1 ma) (tQ G W b2 mb) σ H Q := by
  obtain ⟨C, n, env, us, h⟩ := h
  refine ⟨C, n, env, us, (h.bind (R := rV G b1)).imp ?_⟩
  rintro v H1 ⟨C1, n1, d, s1, r1, h1⟩
  refine ⟨C1, n1, env, us, (h1.bind (R := rV G b2)).imp ?_⟩
  rintro u H2 ⟨C2, n2, e, s2, r2, h2⟩
  exact hf env us C2 n2 H2 v u d e Q (r1.nx (s2.vw b1)) r2 h2
theorem s_bin {op : Operator} {r : R2} {f : D → D → T D} {ma mb : Env → T D} {b1 b2 : Bool} {a c : Expr} {pos : Pos} (ho : OpR X (binaryOp op) r)
    (hf : ∀ σ env us C n H x y d e Q, Rep G (C.vw b1) H x d → Rep G (C.vw b2) H y e → At G W (rV G b) σ env us C n H (f d e) Q → r x y H Q)
    (ha : PE X a (tQ G W b1 ma)) (hb : PE X c (tQ G W b2 mb)) : PE X (.BinOp a op c pos) (tQ G W b (q2 f ma mb)) := PE.imp (pe_op ho ha hb) fun σ H Q h => tQ_2 h (hf σ)
theorem s_cmp {op : CmpOp} {r : R2} {f : D → D → T D} {ma mb : Env → T D} {b1 b2 : Bool} {a c : Expr} {pos : Pos} (ho : OpR X (compareOp op) r)
    (hf : ∀ σ env us C n H x y d e Q, Rep G (C.vw b1) H x d → Rep G (C.vw b2) H y e → At G W (rV G b) σ env us C n H (f d e) Q → r x y H Q)
    (ha : PE X a (tQ G W b1 ma)) (hb : PE X c (tQ G W b2 mb)) (hm : behindInMarks op c = false) : PE X (.Compare a [op] [c] pos) (tQ G W b (q2 f ma mb)) := PE.imp (pe_cmpR ho ha hb hm) fun σ H Q h => tQ_2 h (hf σ)
end
def addD : D → D → T D
  | .int i, .int j => .ret (.int (i + j))
  | .str x, .str y => grd (x.length + y.length ≤ big) (.ret (.str (x ++ y)))
  | .lst xs, .lst ys => grd (xs.length + ys.length ≤ big) (.ret (.lst (xs ++ ys)))
  | .tup xs, .tup ys => grd (xs.length + ys.length ≤ big) (.ret (.tup (xs ++ ys)))
  | .int i, .bl k => .ret (.int (i + b2i k))
  | _, _ => .fail
def subD : D → D → T D
  | .int i, .int j => .ret (.int (i - j))
  | _, _ => .fail
def mulD : D → D → T D
  | .int i, .int j => grd ((-18446744073709551616 < i ∧ i < 18446744073709551616) ∨ (-18446744073709551616 < j ∧ j < 18446744073709551616)) (.ret (.int (i * j)))
  | .lst xs, .int k => grd (0 ≤ k ∧ k ≤ 100000 ∧ xs.length * k.toNat ≤ big) (.ret (.lst (List.replicate k.toNat xs).flatten))
  | .tup xs, .int k => grd (xs ≠ [] ∧ 1 ≤ k ∧ k ≤ 1000 ∧ xs.length ≤ 1000) (.ret (.tup (List.replicate k.toNat xs).flatten))
  | _, _ => .fail
def modD : D → D → T D
  | .int i, .int j => grd (0 < j) (.ret (.int (i % j)))
  | _, _ => .fail
def fdivD : D → D → T D
  | .int i, .int j => grd (0 < j ∧ j < 1073741824) (.ret (.int (i / j)))
  | _, _ => .fail
def powD : D → D → T D
  | .int i, .int j => grd (0 ≤ j ∧ j ≤ 1000 ∧ i.natAbs < 18446744073709551616) (.ret (.int (i ^ j.toNat)))
  | _, _ => .fail
def negD : D → T D
  | .int i => .ret (.int (-i))
  | _ => .fail
def ltD : D → D → T D
  | .int i, .int j => .ret (.bl (decide (i < j)))
  | _, _ => .fail
def leD : D → D → T D
  | .int i, .int j => .ret (.bl (decide (i ≤ j)))
  | _, _ => .fail
def gtD : D → D → T D
  | .int i, .int j => .ret (.bl (decide (j < i)))
  | _, _ => .fail
def geD : D → D → T D
  | .int i, .int j => .ret (.bl (decide (j ≤ i)))
  | _, _ => .fail
def isNon : D → Bool
  | .non => true
  | _ => false
def isnD : D → D → T D
  | d, .non => .ret (.bl (isNon d))
  | _, _ => .fail
def notnD : D → D → T D
  | d, .non => .ret (.bl (!isNon d))
  | _, _ => .fail
section
variable {X : Cx} {G : GC} {W : WX} {b : Bool} {ma mb : Env → T D} {a c : Expr} {pos : Pos}
theorem s_add (hk : X.K = G.K) (ha : PE X a (tQ G W false ma)) (hb : PE X c (tQ G W false mb)) : PE X (.BinOp a .Add c pos) (tQ G W false (q2 addD ma mb)) := by
  have ho := OpR.or (op_add (X := X)) (OpR.or op_add_str (OpR.or op_cat (OpR.or op_catA op_add_ib)))
  rw [hk] at ho
  refine s_bin ho (fun σ env us C n H x y d e Q r1 r2 h => ?_) ha hb
  have r1 := r1.unview
  have r2 := r2.unview
  cases r1 <;> try exact h.no.elim
  case int i =>
    cases r2 <;> try exact h.no.elim
    case int j => exact .inl ⟨i, j, rfl, rfl, h.ret (.int _)⟩
    case bl j => exact .inr (.inr (.inr (.inr ⟨i, j, rfl, rfl, h.ret (.int _)⟩)))
  case str i =>
    cases r2 <;> try exact h.no.elim
    case str j =>
      obtain ⟨hl, h⟩ := h.grd
      exact .inr (.inl ⟨i, j, rfl, rfl, Nat.le_trans hl (by decide), h.ret (.str _)⟩)
  case lst p vs ds f1 h1 l1 =>
    cases r2 <;> try exact h.no.elim
    case lst q us es f2 h2 l2 =>
      obtain ⟨hl, h⟩ := h.grd
      exact .inr (.inr (.inl ⟨p, q, vs, us, rfl, rfl, h1, h2, by rw [l1.length, l2.length]; exact Nat.le_trans hl (by decide), fun p hp => h.newL (l1.append l2) hp⟩))
  case tup p vs ds h1 l1 =>
    cases r2 <;> try exact h.no.elim
    case tup q us es h2 l2 =>
      obtain ⟨hl, h⟩ := h.grd
      refine .inr (.inr (.inr (.inl ⟨p, q, vs, us, rfl, rfl, SqT.of h1, SqT.of h2, by rw [l1.length, l2.length]; exact Nat.le_trans hl (by decide), fun z => ?_, fun _ z => ?_, fun _ _ p hp => h.newT ((l1.append l2).nx (Nx.view _ false _)) id hp⟩)))
      · have e : ds = [] := l1.nil_iff.mp z
        rw [e, List.nil_append] at h
        exact h.ret (.tup h2 (l2.nx (Nx.view _ false _)))
      · have e : es = [] := l2.nil_iff.mp z
        rw [e, List.append_nil] at h
        exact h.ret (.tup h1 (l1.nx (Nx.view _ false _)))
theorem s_sub (ha : PE X a (tQ G W false ma)) (hb : PE X c (tQ G W false mb)) : PE X (.BinOp a .Sub c pos) (tQ G W false (q2 subD ma mb)) := by
  refine s_bin op_sub (fun σ env us C n H x y d e Q r1 r2 h => ?_) ha hb
  cases r1 <;> try exact h.no.elim
  cases r2 <;> try exact h.no.elim
  exact ⟨_, _, rfl, rfl, h.ret (.int _)⟩
theorem flat_rep {α : Type} (xs : List α) : (List.replicate 1 xs).flatten = xs := by simp
theorem RepL.rep {C : Cf} {H : Hp} {vs : List V} {ds : List D} (r : RepL G C H vs ds) : ∀ k : Nat, RepL G C H (List.replicate k vs).flatten (List.replicate k ds).flatten
  | 0 => .nil
  | k + 1 => by
    rw [List.replicate_succ, List.replicate_succ, List.flatten_cons, List.flatten_cons]
    exact r.append (RepL.rep r k)
theorem s_mod (ha : PE X a (tQ G W false ma)) (hb : PE X c (tQ G W false mb)) : PE X (.BinOp a .Mod c pos) (tQ G W false (q2 modD ma mb)) := by
  refine s_bin op_mod (fun σ env us C n H x y d e Q r1 r2 h => ?_) ha hb
  cases r1 <;> try exact h.no.elim
  cases r2 <;> try exact h.no.elim
  case int.int i j =>
    obtain ⟨hl, h⟩ := h.grd
    exact ⟨_, _, rfl, rfl, hl, h.ret (.int _)⟩
theorem s_fdiv (ha : PE X a (tQ G W false ma)) (hb : PE X c (tQ G W false mb)) : PE X (.BinOp a .FloorDiv c pos) (tQ G W false (q2 fdivD ma mb)) := by
  refine s_bin op_fdiv (fun σ env us C n H x y d e Q r1 r2 h => ?_) ha hb
  cases r1 <;> try exact h.no.elim
  cases r2 <;> try exact h.no.elim
  case int.int i j =>
    obtain ⟨hl, h⟩ := h.grd
    exact ⟨_, _, rfl, rfl, hl, h.ret (.int _)⟩
theorem s_pow (ha : PE X a (tQ G W false ma)) (hb : PE X c (tQ G W false mb)) : PE X (.BinOp a .Pow c pos) (tQ G W false (q2 powD ma mb)) := by
  refine s_bin op_pow (fun σ env us C n H x y d e Q r1 r2 h => ?_) ha hb
  cases r1 <;> try exact h.no.elim
  cases r2 <;> try exact h.no.elim
  case int.int i j =>
    obtain ⟨hl, h⟩ := h.grd
    exact ⟨_, _, rfl, rfl, ⟨hl.1, by omega, hl.2.2⟩, h.ret (.int _)⟩
theorem s_neg (ha : PE X a (tQ G W false ma)) : PE X (.UnaryOp .USub a pos) (tQ G W false (q1 negD ma)) := by
  refine PE.imp (pe_un un_neg ha) fun σ H Q h => ?_
  obtain ⟨C, n, env, us, h⟩ := h
  refine ⟨C, n, env, us, (h.bind (R := rV G false)).imp ?_⟩
  rintro v H1 ⟨C1, n1, d, s1, r1, h1⟩
  cases r1 <;> try exact h1.no.elim
  exact ⟨_, rfl, h1.ret (.int _)⟩
theorem s_lt (ha : PE X a (tQ G W false ma)) (hb : PE X c (tQ G W false mb)) : PE X (.Compare a [.Lt] [c] pos) (tQ G W false (q2 ltD ma mb)) := by
  refine s_cmp op_lt (fun σ env us C n H x y d e Q r1 r2 h => ?_) ha hb (nomark _)
  cases r1 <;> try exact h.no.elim
  cases r2 <;> try exact h.no.elim
  exact ⟨_, _, rfl, rfl, h.ret (.bl _)⟩
theorem s_le (ha : PE X a (tQ G W false ma)) (hb : PE X c (tQ G W false mb)) : PE X (.Compare a [.LtE] [c] pos) (tQ G W false (q2 leD ma mb)) := by
  refine s_cmp op_le (fun σ env us C n H x y d e Q r1 r2 h => ?_) ha hb (nomark _)
  cases r1 <;> try exact h.no.elim
  cases r2 <;> try exact h.no.elim
  exact ⟨_, _, rfl, rfl, h.ret (.bl _)⟩
theorem s_gt (ha : PE X a (tQ G W false ma)) (hb : PE X c (tQ G W false mb)) : PE X (.Compare a [.Gt] [c] pos) (tQ G W false (q2 gtD ma mb)) := by
  refine s_cmp op_gt (fun σ env us C n H x y d e Q r1 r2 h => ?_) ha hb (nomark _)
  cases r1 <;> try exact h.no.elim
  cases r2 <;> try exact h.no.elim
  exact ⟨_, _, rfl, rfl, h.ret (.bl _)⟩
theorem s_ge (ha : PE X a (tQ G W false ma)) (hb : PE X c (tQ G W false mb)) : PE X (.Compare a [.GtE] [c] pos) (tQ G W false (q2 geD ma mb)) := by
  refine s_cmp op_ge (fun σ env us C n H x y d e Q r1 r2 h => ?_) ha hb (nomark _)
  cases r1 <;> try exact h.no.elim
  cases r2 <;> try exact h.no.elim
  exact ⟨_, _, rfl, rfl, h.ret (.bl _)⟩
theorem isNon_of {C : Cf} {H : Hp} {v : V} {d : D} (r : Rep G C H v d) : decide (v = .non) = isNon d := by
  cases r <;> rfl
theorem s_isN (ha : PE X a (tQ G W b ma)) (hb : PE X c (tQ G W b mb)) : PE X (.Compare a [.Is] [c] pos) (tQ G W false (q2 isnD ma mb)) := by
  refine s_cmp op_isN (fun σ env us C n H x y d e Q r1 r2 h => ?_) ha hb (nomark _)
  have q := isNon_of r1
  cases r2 <;> try (cases d <;> exact h.no.elim)
  rw [q]
  refine ⟨rfl, h.ret ?_⟩
  exact .bl _
theorem s_notN (ha : PE X a (tQ G W b ma)) (hb : PE X c (tQ G W b mb)) : PE X (.Compare a [.IsNot] [c] pos) (tQ G W false (q2 notnD ma mb)) := by
  refine s_cmp op_notN (fun σ env us C n H x y d e Q r1 r2 h => ?_) ha hb (nomark _)
  have q := isNon_of r1
  cases r2 <;> try (cases d <;> exact h.no.elim)
  rw [q]
  refine ⟨rfl, h.ret ?_⟩
  exact .bl _
end
end Pu
set_option Elab.async false
set_option linter.all false
set_option maxRecDepth 100000
set_option maxHeartbeats 4000000
namespace Pu
open PySem L2 Stp NdefX
open PyProof.Rows hiding St
/-! ### data that == compares -/
mutual
def D.pd : D → Option PyData
  | .non => some .none
  | .bl b => some (.bool b)
  | .int i => some (.int i)
  | .str x => some (.str x)
  | .tup xs => (D.pdL xs).map .tuple
  | .wt xs => (D.pdL xs).map .tuple
  | .lst xs => (D.pdL xs).map .list
  | _ => none
def D.pdL : List D → Option (List PyData)
  | [] => some []
  | x :: xs => match D.pd x, D.pdL xs with
    | some a, some b => some (a :: b)
    | _, _ => none
end
section
variable {G : GC} {C : Cf} {H : Hp}
mutual
theorem Rep.dp : ∀ {v : V} {d : D} {x : PyData}, Rep G C H v d → d.pd = some x → Dp G.K H v x
  | _, _, _, .non, e => by cases e; exact .non
  | _, _, _, .bl b, e => by cases e; exact .bl b
  | _, _, _, .int b, e => by cases e; exact .int b
  | _, _, _, .str b, e => by cases e; exact .str b
  | _, .tup ds, x, .tup h l, e => by
    have e : (D.pdL ds).map PyData.tuple = some x := e
    cases q : D.pdL ds with
    | none => rw [q] at e; cases e
    | some ys => rw [q] at e; cases e; exact .tup (SqT.of h) (RepL.dp l q)
  | _, .wt ds, x, .wt h l, e => by
    have e : (D.pdL ds).map PyData.tuple = some x := e
    cases q : D.pdL ds with
    | none => rw [q] at e; cases e
    | some ys => rw [q] at e; cases e; exact .tup (sqT_wt h) (RepL.dp l q)
  | _, .lst ds, x, .lst _ h l, e => by
    have e : (D.pdL ds).map PyData.list = some x := e
    cases q : D.pdL ds with
    | none => rw [q] at e; cases e
    | some ys => rw [q] at e; cases e; exact .lst (SqL.of h) (RepL.dp l q)
  | _, _, _, .dK _ _ _, e => by cases e
  | _, _, _, .dT _ _ _, e => by cases e
  | _, _, _, .obj _ _ _ _, e => by cases e
  | _, _, _, .exc _ _, e => by cases e
  | _, _, _, .fn _ _, e => by cases e
  | _, _, _, .ty _, e => by cases e
  | _, _, _, .cls _, e => by cases e
  | _, _, _, .pen _, e => by cases e
  | _, _, _, .scr _, e => by cases e
theorem RepL.dp : ∀ {vs : List V} {ds : List D} {xs : List PyData}, RepL G C H vs ds → D.pdL ds = some xs → DpAll G.K H vs xs
  | _, _, _, .nil, e => by cases e; exact .nil
  | _, d :: ds, xs, .cons r l, e => by
    have e : (match D.pd d, D.pdL ds with | some a, some b => some (a :: b) | _, _ => none) = some xs := e
    cases q1 : D.pd d with
    | none => rw [q1] at e; cases e
    | some a =>
      cases q2 : D.pdL ds with
      | none => rw [q1, q2] at e; cases e
      | some b =>
        rw [q1, q2] at e
        cases e
        exact .cons (Rep.dp r q1) (RepL.dp l q2)
end
end
/-- two strings -/
def strQq : D → D → Option Bool
  | .str x, .str y => some (decide (x = y))
  | _, _ => none
theorem strq_some {d e : D} {b : Bool} (h : strQq d e = some b) : ∃ x y, d = .str x ∧ e = .str y ∧ b = decide (x = y) := by
  unfold strQq at h
  split at h
  · rename_i x y
    cases h
    exact ⟨x, y, rfl, rfl, rfl⟩
  · cases h
def eqP (d e : D) : T D := match d.pd, e.pd with
  | some x, some y => grd (SeqAt.shaped x = true ∧ SeqAt.shaped y = true) (.ret (.bl (PyData.eqv x y)))
  | _, _ => .fail
def neP (d e : D) : T D := match d.pd, e.pd with
  | some x, some y => grd (SeqAt.shaped x = true ∧ SeqAt.shaped y = true) (.ret (.bl (!PyData.eqv x y)))
  | _, _ => .fail
def eqD (d e : D) : T D := match strQq d e with
  | some b => .ret (.bl b)
  | none => eqP d e
def neD (d e : D) : T D := match strQq d e with
  | some b => .ret (.bl (!b))
  | none => neP d e
section
variable {X : Cx} {G : GC} {W : WX} {b b1 b2 : Bool} {ma mb : Env → T D} {a c : Expr} {pos : Pos}
end
end Pu
set_option Elab.async false
set_option linter.all false
set_option maxRecDepth 100000
set_option maxHeartbeats 4000000
namespace Pu
open PySem PySem.Spec L2 Stp NdefX
open PyProof.Rows hiding St
open AutoSeq1 (wpAny_loadPart')
theorem tuple_mul1 (l : Addr) (items : Array Value) (n : Nat) (dd : Option Addr) (sl : Array (Option Value)) (u : Tok) :
    Meets (Builtin.«tuple.__mul__» ⟨[.ref l, .int 1 u], []⟩) (fun _ R s => s.heap.get? l = some { cls := .type "tuple", dict := dd, data := .seq items n, slots := sl } ∧ R (.ok (.ret (Value.ref l))) s) :=
  .of_wp fun prog w A R s h => by
    obtain ⟨hp, g, d, tk, os⟩ := s
    obtain ⟨hl, h⟩ := h
    have f1 := AutoSeq1.idx_int
    have c1 : (items.isEmpty || (1 : Int) == 1) = true := by rw [Bool.or_comm]; rfl
    wp_walk using wpAny_loadPart' hl
    repeat (first
      | (refine wpAny_ite_true (decide_eq_true c1) ?_; wp_walk using wpAny_loadPart' hl))
    exact ⟨_, rfl, h⟩
def rRep1 (K : PySem.W.Frag) : R2 := fun x y H Q => ∃ l xs, x = .ref l ∧ y = .int 1 ∧ SqT K H l xs ∧ Q (.ref l) H
theorem op_rep1 {X : Cx} : OpR X (binaryOp .Mult) (rRep1 X.K) := by
  intro pins s σ H x y v u Q I rx ry h
  obtain ⟨l, xs, rfl, rfl, hT, q⟩ := h
  cases rx
  obtain ⟨t, rfl⟩ := ry
  obtain ⟨its, r, ⟨⟨cls, dd, data, sl⟩, ho, hc, n, hd⟩, hs⟩ := I.tuple hT
  simp only at hc hd
  subst hc hd
  refine wpAny_binaryOp_repeat_ref (T := "tuple") (U := "int") (by decide) ⟨_, ho, rfl⟩ (fun s' => typeIs_int s' 1 t) noFill_tuple_mul F.fills_int_mul F.slot_int_rmul repeat_tuple F.slot_int_index.lookup
    (call_meets F.slot_int_rmul (typeIs_int s 1 t) F.entry_int_rmul (F.args_int_rmul_2 _ _) (int_rmul_tuple 1 t l its.toArray n dd sl)
      ⟨ho, rfl, ⟨_, ho, rfl⟩, call_meets F.slot_tuple_mul ⟨_, ho, rfl⟩ F.entry_tuple_mul (F.args_tuple_mul_2 _ _) (tuple_mul1 l its.toArray n dd sl t) ⟨ho, ?_⟩⟩)
  exact ⟨.ref l, H, I, rfl, q⟩
section
variable {X : Cx} {G : GC} {W : WX} {ma mb : Env → T D} {a c : Expr} {pos : Pos}
theorem s_mul (hk : X.K = G.K) (ha : PE X a (tQ G W false ma)) (hb : PE X c (tQ G W false mb)) : PE X (.BinOp a .Mult c pos) (tQ G W false (q2 mulD ma mb)) := by
  have ho := OpR.or (op_mul (X := X)) (OpR.or op_rep (OpR.or op_repT op_rep1))
  rw [hk] at ho
  refine s_bin ho (fun σ env us C n H x y d e Q r1 r2 h => ?_) ha hb
  have r1 := r1.unview
  have r2 := r2.unview
  cases r1 <;> try exact h.no.elim
  case int i =>
    cases r2 <;> try exact h.no.elim
    case int j =>
      obtain ⟨hl, h⟩ := h.grd
      exact .inl ⟨i, j, rfl, rfl, hl, h.ret (.int _)⟩
  case lst p vs ds f1 h1 l1 =>
    cases r2 <;> try exact h.no.elim
    case int k =>
      obtain ⟨hl, h⟩ := h.grd
      exact .inr (.inl ⟨p, k, vs, rfl, rfl, h1, by omega, by omega, by rw [l1.length]; exact Nat.le_trans hl.2.2 (by decide), fun p hp => h.newL (l1.rep _) hp⟩)
  case tup p vs ds h1 l1 =>
    cases r2 <;> try exact h.no.elim
    case int k =>
      obtain ⟨hl, h⟩ := h.grd
      by_cases hk1 : k = 1
      · subst hk1
        have e : (List.replicate (1 : Int).toNat ds).flatten = ds := by simp
        rw [e] at h
        exact .inr (.inr (.inr ⟨p, vs, rfl, rfl, SqT.of h1, h.ret (.tup h1 (l1.nx (Nx.view _ false _)))⟩))
      · refine .inr (.inr (.inl ⟨p, k, vs, rfl, rfl, SqT.of h1, fun z => hl.1 (l1.nil_iff.mp z), by omega, hl.2.2.1, by rw [l1.length]; exact hl.2.2.2, fun p hp => h.newT ((l1.rep _).nx (Nx.view _ false _)) id hp⟩))
end
end Pu
set_option Elab.async false
set_option linter.all false
set_option maxRecDepth 100000
set_option maxHeartbeats 4000000
namespace Pu
open PySem L2 Stp NdefX
open PyProof.Rows hiding St
section
variable {X : Cx} {G : GC} {W : WX} {b b1 b2 : Bool} {ma mb mc : Env → T D} {a c e : Expr} {pos : Pos}
end
/-! ### truth, tests -/
def truB : D → T Bool
  | .bl k => .ret k
  | _ => .fail
def truD : D → T Bool
  | .non => .ret false
  | .bl k => .ret k
  | .int i => .ret (i != 0)
  | .str y => grd (y.length ≤ big) (.ret ((y.length : Int) != 0))
  | .lst xs => .ret (!xs.isEmpty)
  | .tup xs => .ret (!xs.isEmpty)
  | .wt xs => .ret (!xs.isEmpty)
  | .dK xs => .ret (!xs.isEmpty)
  | _ => .fail
def tb1 (m : Env → T D) (f : D → T Bool) : Env → T Bool := fun env => (m env).bind f
def tbAnd (m k : Env → T Bool) : Env → T Bool := fun env => (m env).bind fun x => if x = true then k env else .ret false
def tbOr (m k : Env → T Bool) : Env → T Bool := fun env => (m env).bind fun x => if x = true then .ret true else k env
def tbNot (m : Env → T Bool) : Env → T Bool := fun env => (m env).bind fun x => .ret (!x)
def qIf (t : Env → T Bool) (m k : Env → T D) : Env → T D := fun env => (t env).bind fun x => if x = true then m env else k env
def qAnd (m k : Env → T D) : Env → T D := fun env => (m env).bind fun d => match d with
  | .bl true => k env
  | .bl false => .ret (.bl false)
  | _ => .fail
def qOr (m k : Env → T D) : Env → T D := fun env => (m env).bind fun d => match d with
  | .bl true => .ret (.bl true)
  | .bl false => k env
  | _ => .fail
def notD : D → T D
  | .bl k => .ret (.bl (!k))
  | _ => .fail
theorem RepL.isEmpty {G : GC} {C : Cf} {H : Hp} {vs : List V} {ds : List D} (r : RepL G C H vs ds) : vs.isEmpty = ds.isEmpty := by cases r <;> rfl
theorem RepK.isEmpty {G : GC} {C : Cf} {H : Hp} {vs : List (Key × V)} {ds : List (Key × D)} (r : RepK G C H vs ds) : vs.isEmpty = ds.isEmpty := by cases r <;> rfl
section
variable {X : Cx} {G : GC} {W : WX} {b b1 b2 : Bool} {ma mb mc : Env → T D} {ta tc : Env → T Bool} {a c e : Expr} {rest : List Expr} {pos : Pos}
theorem t_val (hk : X.K = G.K) (ha : PE X a (tQ G W b ma)) (he : ∀ whole, isTrue a X.env whole = (do let v ← whole; standAt a.pos; holding [v] (truthy v)) := by intro _; rfl) : PT X a (tT G W (tb1 ma truD)) := by
  refine PT.imp (pt_truth ha he) fun σ H Q h => ?_
  obtain ⟨C, n, env, us, h⟩ := h
  refine ⟨C, n, env, us, (h.bind (R := rV G b)).imp ?_⟩
  rintro v H1 ⟨C1, n1, d, s1, r1, h1⟩
  rw [hk]
  cases r1 <;> try exact h1.no.elim
  case non => exact ⟨false, rfl, h1.ret rfl⟩
  case bl k => exact ⟨k, rfl, h1.ret rfl⟩
  case int i => exact ⟨_, rfl, h1.ret rfl⟩
  case str y =>
    obtain ⟨hl, h1⟩ := h1.grd
    exact ⟨_, ⟨Nat.le_trans hl (by decide), rfl⟩, h1.ret rfl⟩
  case lst p vs ds f l r => exact ⟨_, .inl ⟨vs, SqL.of l, rfl⟩, h1.ret (by rw [r.isEmpty])⟩
  case tup p vs ds l r => exact ⟨_, .inr (.inl ⟨vs, SqT.of l, rfl⟩), h1.ret (by rw [r.isEmpty])⟩
  case wt p vs ds l r => exact ⟨_, .inr (.inl ⟨vs, sqT_wt l, rfl⟩), h1.ret (by rw [r.isEmpty])⟩
  case dK p vs ds f l r => exact ⟨_, .inr (.inr ⟨vs, l, rfl⟩), h1.ret (by rw [r.isEmpty])⟩
/-- a test that is True or False -/
theorem tT_B {m : Env → T D} {σ : St} {H : Hp} {Q : Bool → Hp → Prop} (h : tT G W (tb1 m truB) σ H Q) : tQ G W b m σ H (fun x H' => ∃ k, x = .bl k ∧ Q k H') := by
  obtain ⟨C, n, env, us, h⟩ := h
  refine ⟨C, n, env, us, (h.bind (R := rV G b)).imp ?_⟩
  rintro v H1 ⟨C1, n1, d, s1, r1, h1⟩
  cases r1 <;> try exact h1.no.elim
  exact ⟨_, rfl, h1.ret rfl⟩
theorem t_cmp {op : CmpOp} {r : R2} {f : D → D → T D} (ho : OpR X (compareOp op) r)
    (hf : ∀ σ env us C n H x y d e Q, Rep G (C.vw b1) H x d → Rep G (C.vw b2) H y e → At G W (rV G false) σ env us C n H (f d e) Q → r x y H Q)
    (ha : PE X a (tQ G W b1 ma)) (hb : PE X c (tQ G W b2 mb)) (hm : behindInMarks op c = false) : PT X (.Compare a [op] [c] pos) (tT G W (tb1 (q2 f ma mb) truB)) := by
  refine PT.imp (pt_cmpR ho ha hb hm) fun σ H Q h => tQ_2 (tT_B (b := false) h) (hf σ)
/-- a value that is True or False, as a test (a comparison as PE) -/
theorem t_and1 (ha : PT X a (tT G W ta)) : PW X (.BoolOp .And [a] pos) (tT G W ta) := pw_and1 ha
theorem t_or1 (ha : PT X a (tT G W ta)) : PW X (.BoolOp .Or [a] pos) (tT G W ta) := pw_or1 ha
theorem t_and (ha : PT X a (tT G W ta)) (hb : PW X (.BoolOp .And (c :: rest) pos) (tT G W tc)) : PW X (.BoolOp .And (a :: c :: rest) pos) (tT G W (tbAnd ta tc)) := by
  refine PW.imp (pw_and ha hb) fun σ H Q h => ?_
  obtain ⟨C, n, env, us, h⟩ := h
  refine ⟨C, n, env, us, (h.bind (R := rB)).imp ?_⟩
  rintro v H1 ⟨C1, n1, d, s1, r1, h1⟩
  have r1 : v = d := r1
  subst r1
  cases v with
  | true => exact iteT ⟨C1, n1, env, us, h1⟩
  | false => exact iteF (h1.ret rfl)
theorem t_or (ha : PT X a (tT G W ta)) (hb : PW X (.BoolOp .Or (c :: rest) pos) (tT G W tc)) : PW X (.BoolOp .Or (a :: c :: rest) pos) (tT G W (tbOr ta tc)) := by
  refine PW.imp (pw_or ha hb) fun σ H Q h => ?_
  obtain ⟨C, n, env, us, h⟩ := h
  refine ⟨C, n, env, us, (h.bind (R := rB)).imp ?_⟩
  rintro v H1 ⟨C1, n1, d, s1, r1, h1⟩
  have r1 : v = d := r1
  subst r1
  cases v with
  | true => exact iteT (h1.ret rfl)
  | false => exact iteF ⟨C1, n1, env, us, h1⟩
theorem t_not (ha : PT X a (tT G W ta)) : PT X (.UnaryOp .Not a pos) (tT G W (tbNot ta)) := by
  refine PT.imp (pt_not ha) fun σ H Q h => ?_
  obtain ⟨C, n, env, us, h⟩ := h
  refine ⟨C, n, env, us, (h.bind (R := rB)).imp ?_⟩
  rintro v H1 ⟨C1, n1, d, s1, r1, h1⟩
  have r1 : v = d := r1
  subst r1
  exact h1.ret rfl
theorem s_ifExp (hc : PT X e (tT G W ta)) (ha : PE X a (tQ G W b ma)) (hb : PE X c (tQ G W b mb)) : PE X (.IfExp e a c pos) (tQ G W b (qIf ta ma mb)) := by
  refine PE.imp (pe_ifExp hc ha hb) fun σ H Q h => ?_
  obtain ⟨C, n, env, us, h⟩ := h
  refine ⟨C, n, env, us, (h.bind (R := rB)).imp ?_⟩
  rintro v H1 ⟨C1, n1, d, s1, r1, h1⟩
  have r1 : v = d := r1
  subst r1
  cases v with
  | true => exact iteT ⟨C1, n1, env, us, h1⟩
  | false => exact iteF ⟨C1, n1, env, us, h1⟩
theorem s_one {op} (ha : PE X a (tQ G W b ma)) : PE X (.BoolOp op [a] pos) (tQ G W b ma) := pe_one ha
theorem s_and (ha : PE X a (tQ G W false ma)) (hb : PE X (.BoolOp .And (c :: rest) pos) (tQ G W false mb)) : PE X (.BoolOp .And (a :: c :: rest) pos) (tQ G W false (qAnd ma mb)) := by
  refine PE.imp (pe_and ha hb) fun σ H Q h => ?_
  obtain ⟨C, n, env, us, h⟩ := h
  refine ⟨C, n, env, us, (h.bind (R := rV G false)).imp ?_⟩
  rintro v H1 ⟨C1, n1, d, s1, r1, h1⟩
  cases r1 <;> try exact h1.no.elim
  case bl k =>
    refine ⟨k, rfl, ?_⟩
    cases k with
    | true => exact iteT ⟨C1, n1, env, us, h1⟩
    | false => exact iteF (h1.ret (.bl _))
theorem s_or (ha : PE X a (tQ G W false ma)) (hb : PE X (.BoolOp .Or (c :: rest) pos) (tQ G W false mb)) : PE X (.BoolOp .Or (a :: c :: rest) pos) (tQ G W false (qOr ma mb)) := by
  refine PE.imp (pe_or ha hb) fun σ H Q h => ?_
  obtain ⟨C, n, env, us, h⟩ := h
  refine ⟨C, n, env, us, (h.bind (R := rV G false)).imp ?_⟩
  rintro v H1 ⟨C1, n1, d, s1, r1, h1⟩
  cases r1 <;> try exact h1.no.elim
  case bl k =>
    refine ⟨k, rfl, ?_⟩
    cases k with
    | true => exact iteT (h1.ret (.bl _))
    | false => exact iteF ⟨C1, n1, env, us, h1⟩
theorem s_not (ha : PE X a (tQ G W false ma)) : PE X (.UnaryOp .Not a pos) (tQ G W false (q1 notD ma)) := by
  refine PE.imp (pe_not ha) fun σ H Q h => ?_
  obtain ⟨C, n, env, us, h⟩ := h
  refine ⟨C, n, env, us, (h.bind (R := rV G false)).imp ?_⟩
  rintro v H1 ⟨C1, n1, d, s1, r1, h1⟩
  cases r1 <;> try exact h1.no.elim
  exact ⟨_, rfl, h1.ret (.bl _)⟩
/-- a < b < c, ints -/
def qChain (f g : Int → Int → Bool) (ma mb mc : Env → T D) : Env → T D := fun env => (ma env).bind fun x => (mb env).bind fun y => match x, y with
  | .int i, .int j => if f i j = true then (mc env).bind fun z => (match z with
    | .int k => .ret (.bl (g j k))
    | _ => .fail) else .ret (.bl false)
  | _, _ => .fail
theorem tQ_chain {f g : Int → Int → Bool} {σ : St} {H : Hp} {Q : VK} (h : tQ G W false (qChain f g ma mb mc) σ H Q) : tChain (rI0 fun i j => .bl (f i j)) (rI0 fun i j => .bl (g i j)) (tQ G W false ma) (tQ G W false mb) (tQ G W false mc) σ H Q := by
  obtain ⟨C, n, env, us, h⟩ := h
  refine ⟨C, n, env, us, (h.bind (R := rV G false)).imp ?_⟩
  rintro v H1 ⟨C1, n1, d, s1, r1, h1⟩
  refine ⟨C1, n1, env, us, (h1.bind (R := rV G false)).imp ?_⟩
  rintro v2 H2 ⟨C2, n2, d2, s2, r2, h2⟩
  have r1 := r1.nx (s2.vw false)
  cases r1 <;> try exact h2.no.elim
  cases r2 <;> try exact h2.no.elim
  case int.int i j =>
    refine ⟨i, j, rfl, rfl, _, rfl, ?_⟩
    have h2 : At G W (rV G false) σ env us C2 n2 H2 (if f i j = true then (mc env).bind fun z => (match z with | .int k => .ret (.bl (g j k)) | _ => .fail) else .ret (.bl false)) Q := h2
    by_cases hf : f i j = true
    · rw [if_pos hf] at h2 ⊢
      refine ⟨C2, n2, env, us, (h2.bind (R := rV G false)).imp ?_⟩
      rintro v3 H3 ⟨C3, n3, d3, s3, r3, h3⟩
      cases r3 <;> try exact h3.no.elim
      exact ⟨_, _, rfl, rfl, h3.ret (.bl _)⟩
    · rw [if_neg hf] at h2 ⊢
      exact h2.ret (.bl _)
theorem s_chain {op op' : CmpOp} {f g : Int → Int → Bool} (ho : OpR X (compareOp op) (rI0 fun i j => .bl (f i j))) (ho' : OpR X (compareOp op') (rI0 fun i j => .bl (g i j))) (ha : PE X a (tQ G W false ma)) (hb : PE X c (tQ G W false mb)) (hc : PE X e (tQ G W false mc))
    (hm : lastMarks [op, op'] [c, e] = false := by with_unfolding_all rfl) : PE X (.Compare a [op, op'] [c, e] pos) (tQ G W false (qChain f g ma mb mc)) := PE.imp (pe_chain ho ho' ha hb hc hm) fun σ H Q h => tQ_chain h
theorem t_chain {op op' : CmpOp} {f g : Int → Int → Bool} (ho : OpR X (compareOp op) (rI0 fun i j => .bl (f i j))) (ho' : OpR X (compareOp op') (rI0 fun i j => .bl (g i j))) (ha : PE X a (tQ G W false ma)) (hb : PE X c (tQ G W false mb)) (hc : PE X e (tQ G W false mc))
    (hm : lastMarks [op, op'] [c, e] = false := by with_unfolding_all rfl) : PT X (.Compare a [op, op'] [c, e] pos) (tT G W (tb1 (qChain f g ma mb mc) truB)) := PT.imp (pt_chain ho ho' ha hb hc hm) fun σ H Q h => tQ_chain (tT_B (b := false) h)
/-! tests that are comparisons -/
theorem t_lt (ha : PE X a (tQ G W false ma)) (hb : PE X c (tQ G W false mb)) : PT X (.Compare a [.Lt] [c] pos) (tT G W (tb1 (q2 ltD ma mb) truB)) := by
  refine t_cmp op_lt (fun σ env us C n H x y d e Q r1 r2 h => ?_) ha hb (nomark _)
  cases r1 <;> try exact h.no.elim
  cases r2 <;> try exact h.no.elim
  exact ⟨_, _, rfl, rfl, h.ret (.bl _)⟩
theorem t_le (ha : PE X a (tQ G W false ma)) (hb : PE X c (tQ G W false mb)) : PT X (.Compare a [.LtE] [c] pos) (tT G W (tb1 (q2 leD ma mb) truB)) := by
  refine t_cmp op_le (fun σ env us C n H x y d e Q r1 r2 h => ?_) ha hb (nomark _)
  cases r1 <;> try exact h.no.elim
  cases r2 <;> try exact h.no.elim
  exact ⟨_, _, rfl, rfl, h.ret (.bl _)⟩
theorem t_gt (ha : PE X a (tQ G W false ma)) (hb : PE X c (tQ G W false mb)) : PT X (.Compare a [.Gt] [c] pos) (tT G W (tb1 (q2 gtD ma mb) truB)) := by
  refine t_cmp op_gt (fun σ env us C n H x y d e Q r1 r2 h => ?_) ha hb (nomark _)
  cases r1 <;> try exact h.no.elim
  cases r2 <;> try exact h.no.elim
  exact ⟨_, _, rfl, rfl, h.ret (.bl _)⟩
theorem t_ge (ha : PE X a (tQ G W false ma)) (hb : PE X c (tQ G W false mb)) : PT X (.Compare a [.GtE] [c] pos) (tT G W (tb1 (q2 geD ma mb) truB)) := by
  refine t_cmp op_ge (fun σ env us C n H x y d e Q r1 r2 h => ?_) ha hb (nomark _)
  cases r1 <;> try exact h.no.elim
  cases r2 <;> try exact h.no.elim
  exact ⟨_, _, rfl, rfl, h.ret (.bl _)⟩
theorem t_isN (ha : PE X a (tQ G W b ma)) (hb : PE X c (tQ G W b mb)) : PT X (.Compare a [.Is] [c] pos) (tT G W (tb1 (q2 isnD ma mb) truB)) := by
  refine t_cmp op_isN (fun σ env us C n H x y d e Q r1 r2 h => ?_) ha hb (nomark _)
  have q := isNon_of r1
  cases r2 <;> try (cases d <;> exact h.no.elim)
  rw [q]
  exact ⟨rfl, h.ret (.bl _)⟩
theorem t_notN (ha : PE X a (tQ G W b ma)) (hb : PE X c (tQ G W b mb)) : PT X (.Compare a [.IsNot] [c] pos) (tT G W (tb1 (q2 notnD ma mb) truB)) := by
  refine t_cmp op_notN (fun σ env us C n H x y d e Q r1 r2 h => ?_) ha hb (nomark _)
  have q := isNon_of r1
  cases r2 <;> try (cases d <;> exact h.no.elim)
  rw [q]
  exact ⟨rfl, h.ret (.bl _)⟩
def rEq2 (K : PySem.W.Frag) : R2 := fun x y H Q => rEq x y H Q ∨ rEqD K x y H Q
def rNe2 (K : PySem.W.Frag) : R2 := fun x y H Q => rNe x y H Q ∨ rNeD K x y H Q
theorem op_eq2 (hu : X.A.units + 64 < cLine) : OpR X (compareOp .Eq) (rEq2 X.K) := OpR.or op_eq (op_eqD hu)
theorem op_ne2 (hu : X.A.units + 64 < cLine) : OpR X (compareOp .NotEq) (rNe2 X.K) := OpR.or op_ne (op_neD hu)
theorem dec_strV {x y : Str} : decide (V.str x = V.str y) = decide (x = y) := by
  by_cases h : x = y
  · rw [h]; simp
  · rw [decide_eq_false h, decide_eq_false (fun z => h (by cases z; rfl))]
theorem eq_hf {K : PySem.W.Frag} (hk : K = G.K) {σ : St} {env : Env} {us : List Addr} {C : Cf} {n : Nat} {H : Hp} {x y : V} {d e : D} {Q : VK} (r1 : Rep G (C.vw b1) H x d) (r2 : Rep G (C.vw b2) H y e) (h : At G W (rV G false) σ env us C n H (eqD d e) Q) : rEq2 K x y H Q := by
  subst hk
  unfold eqD at h
  cases q0 : strQq d e with
  | some b =>
    obtain ⟨a, c, rfl, rfl, rfl⟩ := strq_some q0
    rw [q0] at h
    cases r1
    cases r2
    refine .inl ⟨rfl, ?_⟩
    rw [dec_strV]
    exact h.ret (.bl _)
  | none =>
    rw [q0] at h
    replace h : At G W (rV G false) σ env us C n H (eqP d e) Q := h
    unfold eqP at h
    cases q1 : d.pd with
    | none => rw [q1] at h; exact h.no.elim
    | some x =>
      cases q2 : e.pd with
      | none => rw [q1, q2] at h; exact h.no.elim
      | some y =>
        rw [q1, q2] at h
        obtain ⟨hl, h⟩ := h.grd
        exact .inr ⟨x, y, r1.dp q1, r2.dp q2, hl.1, hl.2, h.ret (.bl _)⟩
theorem ne_hf {K : PySem.W.Frag} (hk : K = G.K) {σ : St} {env : Env} {us : List Addr} {C : Cf} {n : Nat} {H : Hp} {x y : V} {d e : D} {Q : VK} (r1 : Rep G (C.vw b1) H x d) (r2 : Rep G (C.vw b2) H y e) (h : At G W (rV G false) σ env us C n H (neD d e) Q) : rNe2 K x y H Q := by
  subst hk
  unfold neD at h
  cases q0 : strQq d e with
  | some b =>
    obtain ⟨a, c, rfl, rfl, rfl⟩ := strq_some q0
    rw [q0] at h
    cases r1
    cases r2
    refine .inl ⟨rfl, ?_⟩
    rw [dec_strV]
    exact h.ret (.bl _)
  | none =>
    rw [q0] at h
    replace h : At G W (rV G false) σ env us C n H (neP d e) Q := h
    unfold neP at h
    cases q1 : d.pd with
    | none => rw [q1] at h; exact h.no.elim
    | some x =>
      cases q2 : e.pd with
      | none => rw [q1, q2] at h; exact h.no.elim
      | some y =>
        rw [q1, q2] at h
        obtain ⟨hl, h⟩ := h.grd
        exact .inr ⟨x, y, r1.dp q1, r2.dp q2, hl.1, hl.2, h.ret (.bl _)⟩
theorem s_eq (hk : X.K = G.K) (hu : X.A.units + 64 < cLine) (ha : PE X a (tQ G W b1 ma)) (hb : PE X c (tQ G W b2 mb)) : PE X (.Compare a [.Eq] [c] pos) (tQ G W false (q2 eqD ma mb)) :=
  s_cmp (op_eq2 hu) (fun σ env us C n H x y d e Q r1 r2 h => eq_hf hk r1 r2 h) ha hb (nomark _)
theorem s_ne (hk : X.K = G.K) (hu : X.A.units + 64 < cLine) (ha : PE X a (tQ G W b1 ma)) (hb : PE X c (tQ G W b2 mb)) : PE X (.Compare a [.NotEq] [c] pos) (tQ G W false (q2 neD ma mb)) :=
  s_cmp (op_ne2 hu) (fun σ env us C n H x y d e Q r1 r2 h => ne_hf hk r1 r2 h) ha hb (nomark _)
theorem t_eq (hk : X.K = G.K) (hu : X.A.units + 64 < cLine) (ha : PE X a (tQ G W b1 ma)) (hb : PE X c (tQ G W b2 mb)) : PT X (.Compare a [.Eq] [c] pos) (tT G W (tb1 (q2 eqD ma mb) truB)) :=
  t_cmp (op_eq2 hu) (fun σ env us C n H x y d e Q r1 r2 h => eq_hf hk r1 r2 h) ha hb (nomark _)
theorem t_ne (hk : X.K = G.K) (hu : X.A.units + 64 < cLine) (ha : PE X a (tQ G W b1 ma)) (hb : PE X c (tQ G W b2 mb)) : PT X (.Compare a [.NotEq] [c] pos) (tT G W (tb1 (q2 neD ma mb) truB)) :=
  t_cmp (op_ne2 hu) (fun σ env us C n H x y d e Q r1 r2 h => ne_hf hk r1 r2 h) ha hb (nomark _)
end
end Pu
set_option Elab.async false
set_option linter.all false
set_option maxRecDepth 100000
set_option maxHeartbeats 4000000
namespace Pu
open PySem L2 Stp NdefX
open PyProof.Rows hiding St
/-! ### keys, lookups -/
def keyD : D → Option Key
  | .int i => some (.inl i)
  | .str s => some (.inr s)
  | _ => none
def keysD : List D → Option (List Key)
  | [] => some []
  | d :: ds => match keyD d, keysD ds with
    | some k, some ks => some (k :: ks)
    | _, _ => none
def valD {κ : Type} [DecidableEq κ] (kvs : List (κ × D)) (k : κ) : Option D := (kvs.find? fun kv => decide (kv.1 = k)).map (·.2)
section
variable {G : GC} {C : Cf} {H : Hp}
theorem Rep.key {v : V} {d : D} {k : Key} (r : Rep G C H v d) (e : keyD d = some k) : v = kV k := by
  cases r <;> try (cases e)
  · rfl
  · rfl
theorem RepL.keys : ∀ {vs : List V} {ds : List D} {ks : List Key}, RepL G C H vs ds → keysD ds = some ks → vs = ks.map kV
  | _, _, _, .nil, e => by cases e; rfl
  | _, d :: ds, ks, .cons r l, e => by
    have e : (match keyD d, keysD ds with | some k, some ks => some (k :: ks) | _, _ => none) = some ks := e
    cases q1 : keyD d with
    | none => rw [q1] at e; cases e
    | some a =>
      cases q2 : keysD ds with
      | none => rw [q1, q2] at e; cases e
      | some b =>
        rw [q1, q2] at e
        cases e
        rw [r.key q1, RepL.keys l q2]
        rfl
theorem RepK.val (k : Key) : ∀ {vs : List (Key × V)} {ds : List (Key × D)}, RepK G C H vs ds → (valD ds k = none → valV vs k = none) ∧ ∀ d, valD ds k = some d → ∃ v, valV vs k = some v ∧ Rep G C H v d
  | _, _, .nil => ⟨fun _ => rfl, fun d e => by cases e⟩
  | _, _, .cons (k := k') (v := v') (vs := vs) (d := d') (ds := ds) r l => by
    have ih := RepK.val k l
    by_cases e : k' = k
    · have e1 : valD ((k', d') :: ds) k = some d' := by simp [valD, List.find?_cons, e]
      have e2 : valV ((k', v') :: vs) k = some v' := valV_pos e
      rw [e1, e2]
      exact ⟨(fun z => by cases z), fun d q => by cases q; exact ⟨v', rfl, r⟩⟩
    · have e1 : valD ((k', d') :: ds) k = valD ds k := by simp [valD, List.find?_cons, e]
      have e2 : valV ((k', v') :: vs) k = valV vs k := valV_neg e
      rw [e1, e2]
      exact ih
theorem RepT.val (k : List Key) : ∀ {vs : List (List Key × V)} {ds : List (List Key × D)}, RepT G C H vs ds → (valD ds k = none → valV vs k = none) ∧ ∀ d, valD ds k = some d → ∃ v, valV vs k = some v ∧ Rep G C H v d
  | _, _, .nil => ⟨fun _ => rfl, fun d e => by cases e⟩
  | _, _, .cons (k := k') (v := v') (vs := vs) (d := d') (ds := ds) r l => by
    have ih := RepT.val k l
    by_cases e : k' = k
    · have e1 : valD ((k', d') :: ds) k = some d' := by simp [valD, List.find?_cons, e]
      have e2 : valV ((k', v') :: vs) k = some v' := valV_pos e
      rw [e1, e2]
      exact ⟨(fun z => by cases z), fun d q => by cases q; exact ⟨v', rfl, r⟩⟩
    · have e1 : valD ((k', d') :: ds) k = valD ds k := by simp [valD, List.find?_cons, e]
      have e2 : valV ((k', v') :: vs) k = valV vs k := valV_neg e
      rw [e1, e2]
      exact ih
theorem RepL.atI {vs : List V} {ds : List D} {i : Int} {d : D} (r : RepL G C H vs ds) (e : atI ds i = some d) : ∃ v, atI vs i = some v ∧ Rep G C H v d := by
  unfold L2.atI at e ⊢
  rw [r.length]
  cases q : ixN ds.length i with
  | none => rw [q] at e; cases e
  | some j =>
    rw [q] at e
    exact r.get (show ds[j]? = some d from e)
end
/-- a value or a stop -/
def ofO : Option D → T D
  | some d => .ret d
  | none => .fail
def ixD : D → D → T D
  | .lst xs, .int i => ofO (atI xs i)
  | .tup xs, .int i => ofO (atI xs i)
  | .wt xs, .int i => ofO (atI xs i)
  | .str z, .int i => grd (z.length ≤ big) (match atI z.cps.toList i with
    | some c => .ret (.str ⟨#[c]⟩)
    | none => .fail)
  | .dK kvs, k => match keyD k with
    | some k => ofO (valD kvs k)
    | none => .fail
  | .dT kvs, .tup ks => match keysD ks with
    | some k => ofO (valD kvs k)
    | none => .fail
  | _, _ => .fail
def rIxD : R2 := fun x y H Q => ∃ a v, x = .ref a ∧ DGet H a y (some v) ∧ Q v H
theorem ix_dict {X : Cx} (hu : X.A.units + 1 < cLine) : IxR X rIxD := by
  intro value slice pins s σ H x y v u Q I rx ry h hs
  obtain ⟨a, z, rfl, g, q⟩ := h
  cases rx
  have hT := dict_typeIs I g
  have h₂ : wpAny (model X.prog X.w) X.A (getItem (.ref a) u) (EP X pins σ Q) X.xe s := d_getItem hu I g ry fun w' s' I' rw' => ⟨z, H, I', rw', q⟩
  unfold subscriptTail
  refine wpAny_bind ?_
  rw [getitemInPython_of_ne hT.not_modules]
  refine wpAny_bind (wpAny_specialOf hT PySem.F.slot_dict_getitem.lookup ?_)
  have fin : wpAny (model X.prog X.w) X.A (subscripted slice false (.ref a) u) (fun r s₃ => wpAny (model X.prog X.w) X.A (letTemporaryGo value (.ref a) r >>= fun _ => pure r) (EP X pins σ Q) X.xe s₃) X.xe s := by
    rw [hs]
    exact wpAny_operating (wpAny_mono h₂ (fun r s₃ h₃ => wpAny_bind (wpAny_letTemporaryGo (wpAny_pure h₃))) fun _ _ x => x)
  first
    | exact wpAny_pure (wpAny_bind fin)
    | exact wpAny_bind (wpAny_pure (wpAny_bind fin))
    | exact wpAny_bind fin
section
variable {X : Cx} {G : GC} {W : WX} {b b1 b2 : Bool} {ma mb mc : Env → T D} {a c e : Expr} {pos : Pos}
theorem At.ofO {σ : St} {env : Env} {us : List Addr} {C : Cf} {n : Nat} {H : Hp} {Q : VK} {o : Option D} (h : At G W (rV G b) σ env us C n H (ofO o) Q) : ∃ d, o = some d ∧ At G W (rV G b) σ env us C n H (.ret d) Q := by
  cases o with
  | none => exact h.no.elim
  | some d => exact ⟨d, rfl, h⟩
theorem s_ix (hk : X.K = G.K) (hu : X.A.units + 1 < cLine) (ha : PE X a (tQ G W b ma)) (hb : PE X c (tQ G W false mb)) (hs : PlainIx c := by exact fun _ _ => rfl) : PE X (.Subscript a c pos) (tQ G W b (q2 ixD ma mb)) := by
  have ho := (ix_seq (X := X)).or (ix_dict hu)
  rw [hk] at ho
  refine PE.imp (pe_ix ho ha hb hs) fun σ H Q h => tQ_2 h fun env us C n H x y d e Q r1 r2 h => ?_
  have r2 := r2.unview
  cases r1 <;> try exact h.no.elim
  case lst p vs ds f h1 l =>
    cases r2 <;> try exact h.no.elim
    obtain ⟨d, e, h⟩ := h.ofO
    obtain ⟨v, e1, rv⟩ := l.atI e
    exact .inl (.inl ⟨p, vs, _, v, rfl, rfl, SqL.of h1, e1, h.ret rv⟩)
  case tup p vs ds h1 l =>
    cases r2 <;> try exact h.no.elim
    obtain ⟨d, e, h⟩ := h.ofO
    obtain ⟨v, e1, rv⟩ := l.atI e
    exact .inl (.inr (.inl ⟨p, vs, _, v, rfl, rfl, SqT.of h1, e1, h.ret rv⟩))
  case wt p vs ds h1 l =>
    cases r2 <;> try exact h.no.elim
    obtain ⟨d, e, h⟩ := h.ofO
    obtain ⟨v, e1, rv⟩ := l.atI e
    exact .inl (.inr (.inl ⟨p, vs, _, v, rfl, rfl, sqT_wt h1, e1, h.ret rv⟩))
  case str z =>
    cases r2 <;> try exact h.no.elim
    case int i =>
      obtain ⟨hl, h⟩ := h.grd
      cases q : atI z.cps.toList i with
      | none => rw [q] at h; exact h.no.elim
      | some c =>
        rw [q] at h
        exact .inl (.inr (.inr ⟨z, i, c, rfl, rfl, Nat.le_trans hl (by decide), q, h.ret (.str _)⟩))
  case dK p vs ds f h1 l =>
    have h : At G W (rV G b) σ env us C n H (match keyD e with | some k => ofO (valD ds k) | none => .fail) Q := by cases e <;> exact h
    cases q : keyD e with
    | none => rw [q] at h; exact h.no.elim
    | some k =>
      rw [q] at h
      obtain ⟨d, e1, h⟩ := h.ofO
      obtain ⟨v, e2, rv⟩ := (l.val k).2 d e1
      refine .inr ⟨p, v, rfl, ?_, h.ret rv⟩
      rw [r2.key q, ← e2]
      exact DGet.k h1
  case dT p vs ds f h1 l =>
    cases r2 <;> try exact h.no.elim
    case tup p2 vs2 ds2 h2 l2 =>
      have h : At G W (rV G b) σ env us C n H (match keysD ds2 with | some k => ofO (valD ds k) | none => .fail) Q := h
      cases q : keysD ds2 with
      | none => rw [q] at h; exact h.no.elim
      | some k =>
        rw [q] at h
        obtain ⟨d, e1, h⟩ := h.ofO
        obtain ⟨v, e2, rv⟩ := (l.val k).2 d e1
        refine .inr ⟨p, v, rfl, ?_, h.ret rv⟩
        rw [← e2]
        exact DGet.t h1 (by rw [h2, l2.keys q])
end
/-! ### slices -/
def cutG {α : Type} (xs : List α) (lo hi : Option Int) : List α := (xs.drop (HT.sIx xs.length 0 lo)).take (HT.sIx xs.length xs.length hi - HT.sIx xs.length 0 lo)
def sliceD : D → Option Int → Option Int → T D
  | .lst xs, lo, hi => .ret (.lst (cutG xs lo hi))
  | .tup xs, lo, hi => .ret (.tup (cutG xs lo hi))
  | _, _, _ => .fail
abbrev rO : RR (Option Int) (Option Int) := fun _ _ v d => v = d
def tO (G : GC) (W : WX) (m : Env → T (Option Int)) : TO := fun σ H Q => ∃ C n env us, At G W rO σ env us C n H (m env) Q
def oNone : Env → T (Option Int) := fun _ => .ret none
def oSome (m : Env → T D) : Env → T (Option Int) := fun env => (m env).bind fun d => match d with
  | .int i => .ret (some i)
  | _ => .fail
def qSlice (m : Env → T D) (lo hi : Env → T (Option Int)) : Env → T D := fun env => (m env).bind fun d => (lo env).bind fun l => (hi env).bind fun h => sliceD d l h
theorem PO.imp {X : Cx} {e : Option Expr} {t t' : TO} (h : PO X e t) (k : ∀ σ H Q, t' σ H Q → t σ H Q) : PO X e t' := ⟨fun pins s σ H Q I hw => h.run pins s σ H Q I (k σ H Q hw)⟩
section
variable {X : Cx} {G : GC} {W : WX} {b : Bool} {ma : Env → T D} {ml mh : Env → T (Option Int)} {a : Expr} {lo hi : Option Expr} {pos p2 : Pos}
theorem o_none : PO X none (tO G W oNone) := PO.imp po_none fun σ H Q h => by
  obtain ⟨C, n, env, us, h⟩ := h
  exact h.ret rfl
theorem o_some (ha : PE X a (tQ G W false ma)) : PO X (some a) (tO G W (oSome ma)) := PO.imp (po_some ha) fun σ H Q h => by
  obtain ⟨C, n, env, us, h⟩ := h
  refine ⟨C, n, env, us, (h.bind (R := rV G false)).imp ?_⟩
  rintro v H1 ⟨C1, n1, d, s1, r1, h1⟩
  cases r1 <;> try exact h1.no.elim
  exact ⟨_, rfl, h1.ret rfl⟩
theorem RepL.cut {C : Cf} {H : Hp} {vs : List V} {ds : List D} (r : RepL G C H vs ds) (lo hi : Option Int) : RepL G C H (cutV vs lo hi) (cutG ds lo hi) := by
  unfold cutV cutG
  rw [r.length]
  exact (r.drop _).take _
theorem s_slice (hk : X.K = G.K) (ha : PE X a (tQ G W false ma)) (hl : PO X lo (tO G W ml)) (hh : PO X hi (tO G W mh)) : PE X (.Subscript a (.Slice lo hi none p2) pos) (tQ G W false (qSlice ma ml mh)) := by
  have ho := (sl_list (X := X)).or sl_tupA
  rw [hk] at ho
  refine PE.imp (pe_slice ho ha hl hh) fun σ H Q h => ?_
  obtain ⟨C, n, env, us, h⟩ := h
  refine ⟨C, n, env, us, (h.bind (R := rV G false)).imp ?_⟩
  rintro v H1 ⟨C1, n1, d, s1, r1, h1⟩
  refine ⟨C1, n1, env, us, (h1.bind (R := rO)).imp ?_⟩
  rintro l H2 ⟨C2, n2, l', s2, r2, h2⟩
  have r2 : l = l' := r2
  subst r2
  refine ⟨C2, n2, env, us, (h2.bind (R := rO)).imp ?_⟩
  rintro u H3 ⟨C3, n3, u', s3, r3, h3⟩
  have r3 : u = u' := r3
  subst r3
  have r1 := ((r1.nx (s2.vw false)).nx (s3.vw false)).unview
  cases r1 <;> try exact h3.no.elim
  case lst p vs ds f hp l1 => exact .inl ⟨p, vs, rfl, SqL.of hp, fun q hq => h3.newL (l1.cut _ _) hq⟩
  case tup p vs ds hp l1 =>
    refine .inr ⟨p, vs, rfl, SqT.of hp, fun z => ?_, fun _ q hq => h3.newT ((l1.cut _ _).nx (Nx.view _ false _)) id hq⟩
    have e : cutG ds l u = ds := by
      unfold cutG
      rw [← l1.length, z.1, z.2, List.drop_zero, Nat.sub_zero, l1.length, List.take_length]
    have h3 : At G W (rV G false) σ env us C3 n3 H3 (.ret (.tup (cutG ds l u))) Q := h3
    rw [e] at h3
    exact h3.ret (.tup hp (l1.nx (Nx.view _ false _)))
end
end Pu
set_option Elab.async false
set_option linter.all false
set_option maxRecDepth 100000
set_option maxHeartbeats 4000000
namespace Pu
open PySem L2 Stp NdefX
open PyProof.Rows hiding St
/-! ### what is walked -/
theorem PI.imp {X : Cx} {tg e : Expr} {t t' : TI} (h : PI X tg e t) (k : ∀ σ H R, t' σ H R → t σ H R) : PI X tg e t' := ⟨fun pins s σ H R I hw => h.run pins s σ H R I (k σ H R hw)⟩
/-- the items are ds, whatever comes that leaves frozen things -/
structure Ylds (G : GC) (C : Cf) (H : Hp) (J : It) (ds : List D) : Prop where
  go : ∀ C' H', Nx C C' H H' → ∀ i d, ds[i]? = some d → J.go i H' ∧ ∀ x H'', J.yld i H' x H'' → Step [] C' H' C' H'' ∧ (∀ n, Wf G C' n H' → Wf G C' n H'') ∧ Rep G C' H'' x d
  stop : ∀ C' H', Nx C C' H H' → J.stop ds.length H'
abbrev rJ (G : GC) : RR (List D) It := fun C H J ds => Ylds G C H J ds
def tI (G : GC) (W : WX) (m : Env → T (List D)) : TI := fun σ H R => ∃ C n env us, At G W (rJ G) σ env us C n H (m env) R
def itemsD : D → T (List D)
  | .lst xs => .ret xs
  | .tup xs => .ret xs
  | .wt xs => .ret xs
  | _ => .fail
def iSeq (m : Env → T D) : Env → T (List D) := fun env => (m env).bind itemsD
def rngL (lo : Int) : Nat → List D
  | 0 => []
  | n + 1 => .int lo :: rngL (lo + 1) n
theorem rngL_len (lo : Int) : ∀ n : Nat, (rngL lo n).length = n
  | 0 => rfl
  | n + 1 => congrArg (· + 1) (rngL_len (lo + 1) n)
theorem rngL_at : ∀ (n : Nat) (lo : Int) (i : Nat) (d : D), (rngL lo n)[i]? = some d → i < n ∧ d = .int (lo + i)
  | 0, lo, i, d, h => by simp [rngL] at h
  | n + 1, lo, 0, d, h => by
    simp [rngL] at h
    exact ⟨Nat.succ_pos _, by rw [← h]; simp⟩
  | n + 1, lo, i + 1, d, h => by
    have ih := rngL_at n (lo + 1) i d (by simpa [rngL] using h)
    refine ⟨Nat.succ_lt_succ ih.1, ?_⟩
    rw [ih.2]
    congr 1
    omega
def rng1 (m : Env → T D) : Env → T (List D) := fun env => (m env).bind fun d => match d with
  | .int j => grd (-4611686018427387904 ≤ j ∧ j < 4611686018427387904) (.ret (rngL 0 j.toNat))
  | _ => .fail
def rng2 (m k : Env → T D) : Env → T (List D) := fun env => (m env).bind fun d => (k env).bind fun e => match d, e with
  | .int i, .int j => grd ((-4611686018427387904 ≤ i ∧ i < 4611686018427387904) ∧ -4611686018427387904 ≤ j ∧ j < 4611686018427387904) (.ret (rngL i (j - i).toNat))
  | _, _ => .fail
section
variable {X : Cx} {tg : Expr} {G : GC} {W : WX} {ma mb : Env → T D} {a c : Expr}
def iSq (K : PySem.W.Frag) (tl : TE) : TI := fun σ H R => tl σ H fun x H1 => (∃ a, x = .ref a ∧ (∃ xs, SqL K H1 a xs) ∧ R (Itl K a) H1) ∨ (∃ a, x = .ref a ∧ (∃ xs, SqT K H1 a xs) ∧ R (Itt K a) H1)
theorem pi_sq {l : Expr} {tl : TE} (hl : PE X l tl) : PI X tg l (iSq X.K tl) := by
  refine ⟨fun pins s σ H R I h => ?_⟩
  refine thn (hl.run pins s σ H _ I h) fun v s1 ⟨x, H1, I1, r1, q1⟩ => ?_
  have fp : ∀ b ∈ [s1.heap.objs.size], FpOk X pins H1 b := fun b hb => by
    rw [List.mem_singleton.mp hb]
    exact I1.fpOk (Nat.le_refl _) (I1.hok.fresh (Nat.le_refl _))
  rcases q1 with ⟨a, e, ⟨xs, hq⟩, q⟩ | ⟨a, e, ⟨xs, hq⟩, q⟩
  · subst e
    cases r1
    obtain ⟨its, rv, p, hz⟩ := I1.list hq
    exact wpAny_pyIter_list p.isList ⟨_, _, _, _, H1, rfl, I1.kept (t' := s1.toks) fun b o e => Heap.get?_push_of_some _ e, turn_list a _, ⟨_, Heap.get?_push_size _ rfl, rfl, rfl⟩, fp, q⟩
  · subst e
    cases r1
    obtain ⟨its, rv, p, hz⟩ := I1.tuple hq
    exact wpAny_pyIter_tuple (show s1.heap.IsTuple a its.toArray from p) ⟨_, _, _, _, H1, rfl, I1.kept (t' := s1.toks) fun b o e => Heap.get?_push_of_some _ e, turn_tuple a _, ⟨_, Heap.get?_push_size _ rfl, rfl, rfl⟩, fp, q⟩
theorem ylds_list {C : Cf} {H : Hp} {p : Addr} {vs : List V} {ds : List D} {K : PySem.W.Frag} (f : C.F p) (h : H p = some (.lst vs)) (l : RepL G C H vs ds) : Ylds G C H (Itl K p) ds := by
  refine ⟨fun C' H' n i d e => ?_, fun C' H' n => ?_⟩
  · have h' := (n.fk p _ f h fun _ z => nomatch z).2
    have l' := l.nx n
    obtain ⟨v, e1, rv⟩ := l'.get e
    refine ⟨⟨vs, v, SqL.of h', e1⟩, fun x H'' y => ?_⟩
    obtain ⟨e2, y⟩ := y
    subst e2
    have e3 := y vs (SqL.of h')
    rw [e1] at e3
    cases e3
    exact ⟨Step.refl _ _ _, fun _ w => w, rv⟩
  · have h' := (n.fk p _ f h fun _ z => nomatch z).2
    exact ⟨vs, SqL.of h', by rw [l.length]; exact Nat.le_refl _⟩
theorem ylds_tup {C : Cf} {H : Hp} {p : Addr} {vs : List V} {ds : List D} {K : PySem.W.Frag} (h : ∀ C' H', Nx C C' H H' → SqT K H' p vs) (inj : ∀ H' ys, SqT K H' p ys → SqT K H' p vs → ys = vs ∨ True) (l : RepL G C H vs ds) : Ylds G C H (Itt K p) ds := by
  refine ⟨fun C' H' n i d e => ?_, fun C' H' n => ?_⟩
  · have h' := h C' H' n
    have l' := l.nx n
    obtain ⟨v, e1, rv⟩ := l'.get e
    refine ⟨⟨vs, v, h', e1⟩, fun x H'' y => ?_⟩
    obtain ⟨e2, y⟩ := y
    subst e2
    have e3 := y vs h'
    rw [e1] at e3
    cases e3
    exact ⟨Step.refl _ _ _, fun _ w => w, rv⟩
  · exact ⟨vs, h C' H' n, by rw [l.length]; exact Nat.le_refl _⟩
theorem i_seq (hk : X.K = G.K) (ha : PE X a (tQ G W false ma)) : PI X tg a (tI G W (iSeq ma)) := by
  refine PI.imp (pi_sq ha) fun σ H R h => ?_
  obtain ⟨C, n, env, us, h⟩ := h
  refine ⟨C, n, env, us, (h.bind (R := rV G false)).imp ?_⟩
  rintro v H1 ⟨C1, n1, d, s1, r1, h1⟩
  have r1 := r1.unview
  rw [hk]
  cases r1 <;> try exact h1.no.elim
  case lst p vs ds f hp l => exact .inl ⟨p, rfl, ⟨vs, SqL.of hp⟩, h1.ret (ylds_list f hp l)⟩
  case tup p vs ds hp l => exact .inr ⟨p, rfl, ⟨vs, SqT.of hp⟩, h1.ret (ylds_tup (fun C' H' n => SqT.of (n.tp _ _ hp)) (fun _ _ _ _ => .inr trivial) l)⟩
  case wt p vs ds hp l => exact .inr ⟨p, rfl, ⟨vs, sqT_wt hp⟩, h1.ret (ylds_tup (fun C' H' n => sqT_wt hp) (fun _ _ _ _ => .inr trivial) l)⟩
theorem ylds_rng {C : Cf} {H : Hp} {lo : Int} {n : Nat} : Ylds G C H (Itr lo n) (rngL lo n) := by
  refine ⟨fun C' H' _ i d e => ?_, fun C' H' _ => ?_⟩
  · obtain ⟨h1, h2⟩ := rngL_at n lo i d e
    refine ⟨h1, fun x H'' y => ?_⟩
    obtain ⟨e2, y⟩ := y
    subst e2 y h2
    exact ⟨Step.refl _ _ _, fun _ w => w, .int _⟩
  · show n ≤ (rngL lo n).length
    rw [rngL_len]
    exact Nat.le_refl _
theorem i_range1 {p pos : Pos} (hg : Gl X "range") (hm : X.mg "range" = none) (ha : PE X a (tQ G W false ma)) (hs : starEach [a] X.env = [(false, eval a X.env)] := by rfl) (hs' : starEach [a] X.env = (false, eval a X.env) :: starEach [] X.env := by rfl) : PI X tg (.Call (.Name "range" p) [a] [] pos) (tI G W (rng1 ma)) := by
  refine PI.imp (pi_range1 hg hm (pa_cons ha pa_nil hs') hs) fun σ H R h => ?_
  obtain ⟨C, n, env, us, h⟩ := h
  refine ⟨C, n, env, us, (h.bind (R := rV G false)).imp ?_⟩
  rintro v H1 ⟨C1, n1, d, s1, r1, h1⟩
  cases r1 <;> try exact h1.no.elim
  case int j =>
    obtain ⟨hl, h1⟩ := h1.grd
    exact ⟨j, rfl, hl.1, hl.2, h1.ret ylds_rng⟩
theorem i_range2 {p pos : Pos} (hg : Gl X "range") (hm : X.mg "range" = none) (ha : PE X a (tQ G W false ma)) (hb : PE X c (tQ G W false mb)) (hs : starEach [a, c] X.env = [(false, eval a X.env), (false, eval c X.env)] := by rfl) (hs2 : starEach [c] X.env = [(false, eval c X.env)] := by rfl)
    (hs' : starEach [a, c] X.env = (false, eval a X.env) :: starEach [c] X.env := by rfl) (hs2' : starEach [c] X.env = (false, eval c X.env) :: starEach [] X.env := by rfl) : PI X tg (.Call (.Name "range" p) [a, c] [] pos) (tI G W (rng2 ma mb)) := by
  refine PI.imp (pi_range2 hg hm (pa_cons ha (pa_cons hb pa_nil hs2') hs') hs hs2) fun σ H R h => ?_
  obtain ⟨C, n, env, us, h⟩ := h
  refine ⟨C, n, env, us, (h.bind (R := rV G false)).imp ?_⟩
  rintro v H1 ⟨C1, n1, d, s1, r1, h1⟩
  refine ⟨C1, n1, env, us, (h1.bind (R := rV G false)).imp ?_⟩
  rintro v2 H2 ⟨C2, n2, d2, s2, r2, h2⟩
  cases r1 <;> try exact h2.no.elim
  cases r2 <;> try exact h2.no.elim
  case int.int i j =>
    obtain ⟨hl, h2⟩ := h2.grd
    exact ⟨i, j, rfl, ⟨hl.1.1, hl.1.2, hl.2.1, hl.2.2⟩, h2.ret ylds_rng⟩
end
/-! ### targets -/
inductive Pt where
  | nm (i : Nat) | tp (is : List Nat)
def Pt.slots : Pt → List Nat
  | .nm i => [i]
  | .tp is => is
def putL : List Nat → List D → Env → Env
  | i :: is, d :: ds, env => putL is ds (env.set i (some (.fz d)))
  | _, _, env => env
def putP : Pt → D → Env → Option Env
  | .nm i, d, env => some (env.set i (some (.fz d)))
  | .tp is, .tup ds, env => if ds.length = is.length then some (putL is ds env) else none
  | .tp is, .wt ds, env => if ds.length = is.length then some (putL is ds env) else none
  | .tp is, .lst ds, env => if ds.length = is.length then some (putL is ds env) else none
  | _, _, _ => none
def setL : List Nat → List V → St → St
  | i :: is, v :: vs, σ => setL is vs (σ.set i (some v))
  | _, _, σ => σ
def gNs (is : List Nat) : TGs := fun vs σ H Q => vs.length = is.length ∧ Q (setL is vs σ) H
def gP (K : PySem.W.Frag) : Pt → TG
  | .nm i => gName i
  | .tp is => fun v σ H Q => gTup K is.length (gNs is) v σ H Q ∨ gUnl K is.length (gNs is) v σ H Q
theorem pg_tp {X : Cx} {pos : Pos} {es : List Expr} {k : Nat} {is : List Nat} (hc : X.calm = true) (h : PGs X es (gNs is)) (h1 : (assignEach es X.env).length = is.length := by rfl) (h2 : List.findIdx? (fun x => x.1) (assignEach es X.env) = none := by rfl) : PG X (.Tuple es k pos) (gP X.K (.tp is)) :=
  ⟨fun pins s σ H v u Q I r hw => hw.elim (fun q => (pg_tup hc h h1 h2).run pins s σ H v u Q I r q) (fun q => (pg_unl hc h h1 h2).run pins s σ H v u Q I r q)⟩
theorem PGs.imp {X : Cx} {es : List Expr} {t t' : TGs} (h : PGs X es t) (k : ∀ vs σ H Q, t' vs σ H Q → t vs σ H Q) : PGs X es t' := ⟨fun pins s σ H xs us Q I r hw => h.run pins s σ H xs us Q I r (k xs σ H Q hw)⟩
section
variable {X : Cx}
theorem gn_nil : PGs X [] (gNs []) := PGs.imp pgs_nil fun vs σ H Q h => by
  obtain ⟨h1, h2⟩ := h
  cases vs with
  | nil => exact ⟨rfl, h2⟩
  | cons _ _ => cases h1
theorem gn_cons {e : Expr} {es : List Expr} {i : Nat} {is : List Nat} (h : PG X e (gName i)) (r : PGs X es (gNs is)) (hs : (assignEach (e :: es) X.env).map (·.2) = assign e X.env :: (assignEach es X.env).map (·.2) := by rfl) : PGs X (e :: es) (gNs (i :: is)) := PGs.imp (pgs_cons h r hs) fun vs σ H Q h => by
  obtain ⟨h1, h2⟩ := h
  cases vs with
  | nil => cases h1
  | cons v vs => exact ⟨v, vs, rfl, Nat.succ.inj h1, h2⟩
end
section
variable {G : GC} {C : Cf} {n : Nat} {H : Hp}
theorem wipe_at {vs : List Nat} (σ : St) (i : Nat) (x : Option V) (hi : i ∈ vs) : wipe (σ.set i x) vs = wipe σ vs := by
  induction vs with
  | nil => cases hi
  | cons v vs ih =>
    unfold wipe
    by_cases h : i ∈ vs
    · rw [ih h]
    · have e : i = v := by
        rcases List.mem_cons.mp hi with h' | h'
        · exact h'
        · exact absurd h' h
      subst e
      have q : ∀ (ws : List Nat) (τ : St), i ∉ ws → wipe (τ.set i x) ws = (wipe τ ws).set i x := by
        intro ws
        induction ws with
        | nil => intro τ _; rfl
        | cons w ws ih2 =>
          intro τ hw
          unfold wipe
          rw [ih2 τ (fun z => hw (List.mem_cons_of_mem _ z))]
          exact List.set_comm _ _ (fun z => hw (by rw [z]; exact List.mem_cons_self ..))
      rw [q vs σ h, List.set_set]
theorem Ok.putL : ∀ {is : List Nat} {ds : List D} {vs : List V} {σ : St} {env : Env} {us : List Addr}, Ok G C n σ env us H → RepL G C H vs ds → ds.length = is.length → ∃ us', Ok G C n (setL is vs σ) (putL is ds env) us' H ∧ (∀ a ∈ us', a ∈ us) ∧ ∀ ws, (∀ j ∈ is, j ∈ ws) → wipe (setL is vs σ) ws = wipe σ ws
  | [], [], _, σ, env, us, k, .nil, _ => ⟨us, k, fun _ h => h, fun _ _ => rfl⟩
  | i :: is, d :: ds, _, σ, env, us, k, .cons (v := v) (vs := vs) r l, h => by
    obtain ⟨us1, k1, s1⟩ := k.put r i
    obtain ⟨us2, k2, s2, w2⟩ := Ok.putL (is := is) k1 l (Nat.succ.inj h)
    refine ⟨us2, k2, fun a m => s1 a (s2 a m), fun ws hw => ?_⟩
    rw [show setL (i :: is) (v :: vs) σ = setL is vs (σ.set i (some v)) from rfl, w2 ws fun j m => hw j (List.mem_cons_of_mem _ m), wipe_at σ i _ (hw i (List.mem_cons_self ..))]
  | [], _ :: _, _, _, _, _, _, .cons _ _, h => by cases h
  | _ :: _, [], _, _, _, _, _, .nil, h => by cases h
theorem gP_ok {K : PySem.W.Frag} (hk : K = G.K) {pt : Pt} {d : D} {v : V} {σ : St} {env env' : Env} {us : List Addr} {Q : St → Hp → Prop} (k : Ok G C n σ env us H) (r : Rep G C H v d) (e : putP pt d env = some env')
    (h : ∀ σ' us', Ok G C n σ' env' us' H → (∀ a ∈ us', a ∈ us) → (∀ ws, (∀ j ∈ pt.slots, j ∈ ws) → wipe σ' ws = wipe σ ws) → Q σ' H) : gP K pt v σ H Q := by
  subst hk
  cases pt with
  | nm i =>
    cases e
    obtain ⟨us', k1, s1⟩ := k.put r i
    exact h _ us' k1 s1 fun ws hw => wipe_at σ i _ (hw i (List.mem_singleton.mpr rfl))
  | tp is =>
    cases r <;> try (cases e)
    case tup p vs ds hp l =>
      have e : (if ds.length = is.length then some (Pu.putL is ds env) else none) = some env' := e
      by_cases hl : ds.length = is.length
      · rw [if_pos hl] at e
        cases e
        obtain ⟨us', k1, s1, w1⟩ := k.putL l hl
        exact .inl ⟨p, vs, rfl, SqT.of hp, by rw [l.length]; exact hl, by rw [l.length]; exact hl, h _ us' k1 s1 w1⟩
      · rw [if_neg hl] at e; cases e
    case wt p vs ds hp l =>
      have e : (if ds.length = is.length then some (Pu.putL is ds env) else none) = some env' := e
      by_cases hl : ds.length = is.length
      · rw [if_pos hl] at e
        cases e
        obtain ⟨us', k1, s1, w1⟩ := k.putL l hl
        exact .inl ⟨p, vs, rfl, sqT_wt hp, by rw [l.length]; exact hl, by rw [l.length]; exact hl, h _ us' k1 s1 w1⟩
      · rw [if_neg hl] at e; cases e
    case lst p vs ds f hp l =>
      have e : (if ds.length = is.length then some (Pu.putL is ds env) else none) = some env' := e
      by_cases hl : ds.length = is.length
      · rw [if_pos hl] at e
        cases e
        obtain ⟨us', k1, s1, w1⟩ := k.putL l hl
        exact .inr ⟨p, vs, rfl, SqL.of hp, by rw [l.length]; exact hl, by rw [l.length]; exact hl, h _ us' k1 s1 w1⟩
      · rw [if_neg hl] at e; cases e
end
/-! ### comprehensions -/
abbrev W0 : WX := fun _ _ _ _ => False
namespace T
variable {α : Type}
def noX : T α → T α
  | .ret a => .ret a
  | .ex _ => .fail
  | .draw u k => .draw u fun d => (k d).noX
  | .fail => .fail
theorem wp_noX {Q : α → Nat → Prop} {E E' : D → Nat → Prop} : ∀ {t : T α} {n : Nat}, t.noX.wp n Q E → t.wp n Q E'
  | .ret _, _, h => h
  | .ex _, _, h => h.elim
  | .draw _ _, _, h => ⟨h.1, h.2.1, h.2.2.1, fun d hd => wp_noX (h.2.2.2 d hd)⟩
  | .fail, _, h => h.elim
end T
def wipeE (env : Env) : List Nat → Env
  | [] => env
  | v :: vs => (wipeE env vs).set v none
def compL (pt : Pt) (env : Env) (tt : Env → T Bool) (me : Env → T D) : List D → T (List D)
  | [] => .ret []
  | d :: ds => match putP pt d env with
    | none => .fail
    | some env' => (tt env').noX.bind fun k => if k = true then (me env').noX.bind fun y => (compL pt env tt me ds).bind fun r => .ret (y :: r) else compL pt env tt me ds
def qCompR (it : Env → T (List D)) (pt : Pt) (own : List Nat) (tt : Env → T Bool) (me : Env → T D) : Env → T (List D) := fun env => (it env).bind fun ds => grd (ds.length ≤ big) (compL pt (wipeE env own) tt me ds)
def qComp (it : Env → T (List D)) (pt : Pt) (own : List Nat) (tt : Env → T Bool) (me : Env → T D) : Env → T D := fun env => (qCompR it pt own tt me env).bind fun r => .ret (.lst r)
section
variable {G : GC} {C C1 : Cf} {n : Nat} {H H1 : Hp}
theorem EnvR.wipeL : ∀ (vs : List Nat) {σ : St} {env : Env} {us : List Addr}, EnvR G C H σ env us → ∃ us', EnvR G C H (L2.wipe σ vs) (wipeE env vs) us' ∧ us'.Sublist us
  | [], _, _, us, r => ⟨us, r, List.Sublist.refl _⟩
  | v :: vs, _, _, _, r => by
    obtain ⟨us1, r1, s1⟩ := EnvR.wipeL vs r
    obtain ⟨us2, r2, s2⟩ := r1.wipe v none
    exact ⟨us2, r2, s2.trans s1⟩
/-- a thing of one's own, made behind H1, changes -/
theorem own_mut {p : Addr} {o o' : HO} (h1 : H1 p = none) (s : Step [] C1 H1 C H) (hp : H p = some o) (nf : ¬ C.F p) (m1 : ∀ xs, o ≠ .tup xs) (m2 : ∀ a u, o ≠ .frz a u) (m3 : ∀ φ, o ≠ .ext φ) : Nx C C H (upd H p o') ∧ Step [] C1 H1 C (upd H p o') := by
  have ne : ∀ a u, H a = some u → u ≠ o → upd H p o' a = some u := fun a u h d => by
    rw [upd_ne (fun z => d (by rw [z, hp] at h; exact (Option.some.inj h).symm))]
    exact h
  have nx : Nx C C H (upd H p o') := ⟨fun a u f h _ => ⟨f, by rw [upd_ne (fun z => nf (by rw [← z]; exact f))]; exact h⟩, fun a xs h => ne a _ h fun z => m1 xs z.symm, fun a u x h => ne a _ h fun z => m2 u x z.symm, fun a φ h => ne a _ h fun z => m3 φ z.symm, fun _ h => h⟩
  refine ⟨nx, fun a u h t h2 h3 => ?_, fun a u h => ?_, s.nx.trans nx, s.fn, s.pf, s.me⟩
  · rw [upd_ne (ne_of_none h h1)]
    exact s.kp a u h t h2 h3
  · rw [upd_ne (ne_of_none h h1)]
    exact s.al a u h
theorem Wf.mut {p : Addr} {o o' : HO} (w : Wf G C n H) (hp : H p = some o) (nf : ¬ C.F p) (np : p ∉ C.pa) (t : noTbl o) (m3 : ∀ φ, o ≠ .ext φ) : Wf G C n (upd H p o') := by
  have at_ : ∀ a, a ≠ p → upd H p o' a = H a := fun a h => upd_ne h
  refine ⟨fun q c e => ?_, fun a f => ?_, fun x hx => ?_⟩
  · have hq : p ≠ q ∧ p ≠ c := by
      refine ⟨fun z => np ?_, fun z => np ?_⟩ <;> (unfold Cf.pa; rw [e, z]; simp)
    exact (w.pen q c e).other hq.1 hq.2
  · obtain ⟨⟨u, h1, h2⟩, h3⟩ := w.fz a f
    exact ⟨⟨u, by rw [at_ a (fun z => nf (by rw [← z]; exact f))]; exact h1, h2⟩, h3⟩
  · obtain ⟨ps, h1, h2, h3⟩ := w.tab x hx
    refine ⟨ps, by rw [at_ _ (fun z => t ps (by rw [z, hp] at h1; exact Option.some.inj h1))]; exact h1, h2, fun pos cv hc => ?_⟩
    obtain ⟨c, e1, e2⟩ := h3 pos cv hc
    refine ⟨c, e1, ?_⟩
    rw [at_ c (fun z => by rw [z, hp] at e2; exact m3 _ (Option.some.inj e2))]
    exact e2
theorem EnvR.mut {p : Addr} {o' : HO} {σ : St} {env : Env} {us : List Addr} (e : EnvR G C H σ env us) (nx : Nx C C H (upd H p o')) (nu : p ∉ us) : EnvR G C (upd H p o') σ env us :=
  e.nx nx rfl fun a m u h => by rw [upd_ne (fun z => nu (by rw [← z]; exact m))]; exact h
theorem Ok.mut {p : Addr} {o o' : HO} {σ : St} {env : Env} {us : List Addr} (k : Ok G C n σ env us H) (nx : Nx C C H (upd H p o')) (nu : p ∉ us) (hp : H p = some o) (nf : ¬ C.F p) (np : p ∉ C.pa) (t : noTbl o) (m3 : ∀ φ, o ≠ .ext φ) : Ok G C n σ env us (upd H p o') := by
  refine ⟨k.wf.mut hp nf np t m3, k.env.mut nx nu, k.nd, fun a m => ?_⟩
  obtain ⟨h1, h2, u, h3, h4⟩ := k.us a m
  exact ⟨h1, h2, u, by rw [upd_ne (fun z => nu (by rw [← z]; exact m))]; exact h3, h4⟩
end
end Pu
set_option Elab.async false
set_option linter.all false
set_option maxRecDepth 100000
set_option maxHeartbeats 4000000
namespace Pu
open PySem L2 Stp NdefX
open PyProof.Rows hiding St
section
variable {X : Cx} {G : GC} {W : WX}
theorem pts_yes : PTs X [] (tT G W fun _ => .ret true) := ⟨fun pins s σ H Q I h => pts_nil.run pins s σ H Q I (by
  obtain ⟨C, n, env, us, h⟩ := h
  exact h.ret rfl)⟩
theorem comp_core {K : PySem.W.Frag} (hk : K = G.K) {it : Env → T (List D)} {pt : Pt} {own : List Nat} {tt : Env → T Bool} {me : Env → T D} {σ : St} {env : Env} {us : List Addr} {C : Cf} {n : Nat} {H : Hp} {Q : VK} {R : RR (List D) V} (hown : ∀ j ∈ pt.slots, j ∈ own)
    (hfin : ∀ C1 H1 Ci ni Hi vs acc L, Step [] C H C1 H1 → H1 L = none → Step [] C1 H1 Ci Hi → Hi L = some (.lst vs) → RepL G Ci Hi vs acc → ¬ Ci.F L → L ∉ Ci.pa → Wf G Ci ni Hi → ∃ C', Step [] C1 H1 C' Hi ∧ Wf G C' ni Hi ∧ R C' Hi (.ref L) acc)
    (h : At G W R σ env us C n H (qCompR it pt own tt me env) Q) : tLc (tI G W it) (gP K pt) (tT G W0 tt) (tQ G W0 false me) own σ H Q := by
  refine ⟨C, n, env, us, (h.bind (R := rJ G)).imp ?_⟩
  rintro J H1 ⟨C1, n1, ds, s1, y1, h1⟩ L hL
  obtain ⟨hlen, h1⟩ := h1.grd
  have nLp : L ∉ C1.pa := h1.ok.wf.pne hL
  have nLf : ¬ C1.F L := fun z => by
    obtain ⟨⟨o, e, _⟩, _⟩ := h1.ok.wf.fz L z
    rw [hL] at e
    cases e
  have nLu : L ∉ us := fun z => by
    obtain ⟨_, _, o, e, _⟩ := h1.ok.us L z
    rw [hL] at e
    cases e
  obtain ⟨us2, e2, sb2⟩ := h1.ok.env.wipeL own
  have ok2 := h1.ok.sub e2 sb2
  have nLu2 : L ∉ us2 := fun z => nLu (sb2.subset z)
  -- the word of the loop
  refine ⟨fun i m Hi => m = ds.length - i ∧ i ≤ ds.length ∧ ∃ Ci ni vs acc, Step [] C1 H1 Ci Hi ∧ Hi L = some (.lst vs) ∧ RepL G Ci Hi vs acc ∧ acc.length ≤ i ∧ Ok G Ci ni (wipe σ own) (wipeE env own) us2 Hi ∧ ¬ Ci.F L ∧ L ∉ Ci.pa ∧
    (compL pt (wipeE env own) tt me (ds.drop i)).wp ni (fun r n' => ∀ C' H' v, Step [] C1 H1 C' H' → Wf G C' n' H' → R C' H' v (acc ++ r) → Q v H') (fun e n' => ∀ C' H' cls dx, Step [] C1 H1 C' H' → Wf G C' n' H' → RepX G cls dx e → W cls dx σ H'), ⟨ds.length, by simp, Nat.zero_le _, C1, n1, [], [], ?_, upd_same, .nil, Nat.le_refl _, ?_, nLf, nLp, ?_⟩, ?_⟩
  · exact step_tup hL
  · have nx := (step_tup (C := C1) (o := .lst []) hL).nx
    refine ⟨ok2.wf.tup hL, e2.nx nx rfl fun a m u e => same_new hL _ _ e, ok2.nd, fun a m => ?_⟩
    obtain ⟨q1, q2, u, q3, q4⟩ := ok2.us a m
    exact ⟨q1, q2, u, same_new hL _ _ q3, q4⟩
  · rw [List.drop_zero]
    exact T.wp_mono h1.wp (fun r m _ z C' H' v s w rr => z C' H' v s w rr) (fun e m _ z => z)
  · rintro i m Hi ⟨rfl, hi, Ci, ni, vs, acc, si, hLi, rl, la, oki, nfi, npi, wpi⟩
    by_cases hlt : i < ds.length
    · have ei : ds[i]? = some ds[i] := List.getElem?_eq_getElem hlt
      obtain ⟨go, yl⟩ := y1.go Ci Hi si.nx i _ ei
      refine .inr ⟨go, fun Hn => i < ds.length ∧ ∃ Ci ni vs acc, Step [] C1 H1 Ci Hn ∧ Hn L = some (.lst vs) ∧ RepL G Ci Hn vs acc ∧ acc.length ≤ i + 1 ∧ Ok G Ci ni (wipe σ own) (wipeE env own) us2 Hn ∧ ¬ Ci.F L ∧ L ∉ Ci.pa ∧
        (compL pt (wipeE env own) tt me (ds.drop (i + 1))).wp ni (fun r n' => ∀ C' H' v, Step [] C1 H1 C' H' → Wf G C' n' H' → R C' H' v (acc ++ r) → Q v H') (fun e n' => ∀ C' H' cls dx, Step [] C1 H1 C' H' → Wf G C' n' H' → RepX G cls dx e → W cls dx σ H'),
        fun H' p => ⟨ds.length - (i + 1), by omega, rfl, p.1, p.2⟩, fun x H' y => ?_⟩
      obtain ⟨sy, wy, ry⟩ := yl x H' y
      have oky := oki.q sy (wy _ oki.wf)
      have siy := si.trans sy (by simp)
      rw [List.drop_eq_getElem_cons hlt] at wpi
      unfold compL at wpi
      cases ep : putP pt ds[i] (wipeE env own) with
      | none => rw [ep] at wpi; exact False.elim wpi
      | some env' =>
        rw [ep] at wpi
        refine gP_ok hk oky ry ep fun σ' us' ok' sub' wp' => ⟨?_, Ci, ni, env', us', ok', ?_⟩
        · rw [wp' own hown]
          have ww : ∀ (vs : List Nat) (τ : St), wipe (wipe τ vs) vs = wipe τ vs := by
            intro vs
            induction vs with
            | nil => intro τ; rfl
            | cons v vs ih =>
              intro τ
              show (wipe ((wipe τ vs).set v none) vs).set v none = (wipe τ vs).set v none
              by_cases hv : v ∈ vs
              · rw [wipe_at _ v none hv, ih]
              · have q : ∀ (ws : List Nat) (τ : St), v ∉ ws → wipe (τ.set v none) ws = (wipe τ ws).set v none := by
                  intro ws
                  induction ws with
                  | nil => intro τ _; rfl
                  | cons w ws ih2 =>
                    intro τ hw
                    unfold wipe
                    rw [ih2 τ (fun z => hw (List.mem_cons_of_mem _ z))]
                    exact List.set_comm _ _ (fun z => hw (by rw [z]; exact List.mem_cons_self ..))
                rw [q vs _ hv, ih, List.set_set]
          exact ww own σ
        refine T.wp_mono (T.wp_noX (E' := fun _ _ => False) (T.wp_bind wpi)) (fun k nk _ wk Ck Hk bk sk wfk rk => ?_) (fun _ _ _ z => False.elim z)
        have rk : bk = k := rk
        subst rk
        have hLy : H' L = some (.lst vs) := sy.kp L _ hLi (fun _ z => nomatch z) (by simp) npi
        have npk : L ∉ Ck.pa := fun z => by
          rcases sk.pf L z with z | z
          · exact npi z
          · rw [hLy] at z; cases z
        have nfk : ¬ Ck.F L := fun z => by
          rcases sk.fn L z with z | z | z
          · exact nfi z
          · cases z
          · rw [hLy] at z; cases z
        have hLk : Hk L = some (.lst vs) := sk.kp L _ hLy (fun _ z => nomatch z) (by simp) npi
        have sik := siy.trans sk (by simp)
        have okk := oky.q sk wfk
        cases bk with
        | false =>
          refine iteF ⟨hlt, Ck, nk, vs, acc, sik, hLk, (rl.nx sy.nx).nx sk.nx, by omega, okk, nfk, npk, ?_⟩
          exact wk
        | true =>
          have ok'k := ok'.q sk wfk
          refine iteT ⟨Ck, nk, env', us', ok'k, ?_⟩
          refine T.wp_mono (T.wp_noX (E' := fun _ _ => False) (T.wp_bind wk)) (fun d ne _ we Ce He v se wfe re => ?_) (fun _ _ _ z => False.elim z)
          have hLe : He L = some (.lst vs) := se.kp L _ hLk (fun _ z => nomatch z) (by simp) npk
          have npe : L ∉ Ce.pa := fun z => by
            rcases se.pf L z with z | z
            · exact npk z
            · rw [hLk] at z; cases z
          have nfe : ¬ Ce.F L := fun z => by
            rcases se.fn L z with z | z | z
            · exact nfk z
            · cases z
            · rw [hLk] at z; cases z
          have sie := sik.trans se (by simp)
          have oke := okk.q se wfe
          have rl' : RepL G Ce He (vs ++ [v]) (acc ++ [d]) := (((rl.nx sy.nx).nx sk.nx).nx se.nx).append (.cons re.unview .nil)
          obtain ⟨nx, st⟩ := own_mut (o' := .lst (vs ++ [v])) hL sie hLe nfe (fun _ z => nomatch z) (fun _ _ z => nomatch z) (fun _ z => nomatch z)
          refine ⟨vs, hLe, ?_, hlt, Ce, ne, vs ++ [v], acc ++ [d], st, upd_same, rl'.nx nx, ?_, oke.mut nx nLu2 hLe nfe npe (fun _ z => nomatch z) (fun _ z => nomatch z), nfe, npe, ?_⟩
          · rw [((rl.nx sy.nx).nx sk.nx).length]
            exact Nat.lt_of_le_of_lt (Nat.le_trans la (Nat.le_trans hi hlen)) (by decide)
          · rw [List.length_append]
            exact Nat.succ_le_succ la
          · refine T.wp_mono (T.wp_bind we) (fun r m _ z C' H'' v' s w rr => z C' H'' v' s w ?_) (fun e m _ z => z)
            have e : acc ++ d :: r = acc ++ [d] ++ r := by simp
            rw [e]
            exact rr
    · have e : i = ds.length := by omega
      subst e
      refine .inl ⟨y1.stop Ci Hi si.nx, ?_⟩
      rw [List.drop_length] at wpi
      have wpi : ∀ C' H' v, Step [] C1 H1 C' H' → Wf G C' ni H' → R C' H' v (acc ++ []) → Q v H' := wpi
      rw [List.append_nil] at wpi
      obtain ⟨C', t1, t2, t3⟩ := hfin C1 H1 Ci ni Hi vs acc L s1 hL si hLi rl nfi npi oki.wf
      exact wpi C' Hi (.ref L) t1 t2 t3
theorem frz_fin {C1 Ci : Cf} {ni : Nat} {H1 Hi : Hp} {vs : List V} {acc : List D} {L : Addr} (hL : H1 L = none) (si : Step [] C1 H1 Ci Hi) (hLi : Hi L = some (.lst vs)) (rl : RepL G Ci Hi vs acc) (npi : L ∉ Ci.pa) (wf : Wf G Ci ni Hi) :
    ∃ C', Step [] C1 H1 C' Hi ∧ Wf G C' ni Hi ∧ Rep G (C'.vw false) Hi (.ref L) (.lst acc) := by
  have nx : Nx Ci (Ci.add L) Hi Hi := ⟨fun a u f h _ => ⟨.inr f, h⟩, fun _ _ h => h, fun _ _ _ h => h, fun _ _ h => h, fun _ h => h⟩
  refine ⟨Ci.add L, ⟨si.kp, si.al, si.nx.trans nx, fun a z => ?_, si.pf, si.me⟩, ⟨wf.pen, fun a z => ?_, wf.tab⟩, .lst (.inl (.inl rfl)) hLi ((rl.nx nx).nx (Nx.view _ false _))⟩
  · rcases z with z | z
    · exact .inr (.inr (by rw [z]; exact hL))
    · exact si.fn a z
  · rcases z with z | z
    · rw [z]
      exact ⟨⟨_, hLi, fun _ z => nomatch z⟩, npi⟩
    · exact wf.fz a z
theorem comp_read {K : PySem.W.Frag} (hk : K = G.K) {it : Env → T (List D)} {pt : Pt} {own : List Nat} {tt : Env → T Bool} {me : Env → T D} {σ : St} {H : Hp} {Q : VK} (hown : ∀ j ∈ pt.slots, j ∈ own) (h : tQ G W false (qComp it pt own tt me) σ H Q) :
    tLc (tI G W it) (gP K pt) (tT G W0 tt) (tQ G W0 false me) own σ H Q := by
  obtain ⟨C, n, env, us, h⟩ := h
  refine comp_core (R := fun C H v ds => Rep G (C.vw false) H v (.lst ds)) hk hown (fun C1 H1 Ci ni Hi vs acc L _ hL si hLi rl _ npi wf => frz_fin hL si hLi rl npi wf) (C := C) (n := n) (env := env) (us := us) ⟨h.ok, ?_⟩
  exact T.wp_mono (T.wp_bind h.wp) (fun r m _ z C' H' v s w rr => z C' H' v s w rr) (fun e m _ z => z)
theorem s_comp {it : Env → T (List D)} {pt : Pt} {tt : Env → T Bool} {me : Env → T D} {elt tg iter : Expr} {ifs : List Expr} {scope : Scope} {own : List (Str × Nat)} {pos : Pos} (hk : X.K = G.K) (hc : X.calm = true) (hN : X.N.Nodup) (hi : PI X tg iter (tI G W it)) (ok : BlkOk X.N X.env.scope scope own) (hown : ∀ j ∈ pt.slots, j ∈ own.map (·.2))
    (hg : ∀ (s : Shared) (H : Hp) (C : Addr) (cl : List (Str × Addr)) (fp : List Addr), PG (X.blk s H scope (compEnvC scope cl C X.env) fp) tg (gP X.K pt)) (ht : ∀ (s : Shared) (H : Hp) (C : Addr) (cl : List (Str × Addr)) (fp : List Addr), PTs (X.blk s H scope (compEnvC scope cl C X.env) fp) ifs (tT G W0 tt))
    (he : ∀ (s : Shared) (H : Hp) (C : Addr) (cl : List (Str × Addr)) (fp : List Addr), PE (X.blk s H scope (compEnvC scope cl C X.env) fp) elt (tQ G W0 false me)) (hs : ∀ x, foldedSetIterable iter X.env x = pure x := by intro _; rfl) :
    PE X (.ListComp elt [⟨tg, iter, ifs, 0⟩] scope pos) (tQ G W false (qComp it pt (own.map (·.2)) tt me)) := PE.imp (pe_lc hc hN hi ok hg ht he hs) fun σ H Q h => comp_read hk hown h
end
end Pu
set_option Elab.async false
set_option linter.all false
set_option maxRecDepth 100000
set_option maxHeartbeats 4000000
namespace Pu
open PySem L2 Stp NdefX
open PyProof.Rows hiding St
inductive Fl where
  | nx (env : Env) | rt (d : D) | bk (env : Env) | ct (env : Env) | ex (e : D) (env : Env) | ro (o : O)
def FlP (G : GC) (W : WX) (C : Cf) (n : Nat) (H : Hp) (us : List Addr) (E : Ends) : Fl → Prop
  | .nx env => ∀ σ, Ok G C n σ env us H → E.nx σ H
  | .bk env => ∀ σ, Ok G C n σ env us H → E.bk σ H
  | .ct env => ∀ σ, Ok G C n σ env us H → E.ct σ H
  | .rt d => ∀ v, Wf G C n H → Rep G C H v d → E.rt v H
  | .ex e env => ∀ σ cls dx, Ok G C n σ env us H → RepX G cls dx e → W cls dx σ H
  /- a thing of one's own is given back -/
  | .ro o => ∀ v, Wf G C n H → OwnR G C H v o us → us.Nodup → (∀ a ∈ us, ¬ C.F a ∧ a ∉ C.pa ∧ ∃ u, H a = some u ∧ noTbl u) → E.rt v H
structure AtS (G : GC) (W : WX) (σ : St) (env : Env) (us : List Addr) (C : Cf) (n : Nat) (H : Hp) (t : T Fl) (E : Ends) : Prop where
  ok : Ok G C n σ env us H
  wp : t.wp n (fun r n' => ∀ C' H' us', Step us C H C' H' → (∀ a ∈ us', a ∈ us ∨ H a = none) → FlP G W C' n' H' us' E r) (fun _ _ => False)
def tS (G : GC) (W : WX) (m : Env → T Fl) : TS := fun E σ H => ∃ C n env us, AtS G W σ env us C n H (m env) E
section
variable {G : GC} {W : WX} {σ : St} {env : Env} {us : List Addr} {C : Cf} {n : Nat} {H : Hp} {E : Ends}
theorem Step.back {us : List Addr} {C C1 : Cf} {H H1 : Hp} (s : Step us C H C1 H1) {a : Addr} (h : H1 a = none) : H a = none := by
  cases e : H a with
  | none => rfl
  | some o =>
    obtain ⟨o', h'⟩ := s.al a o e
    rw [h'] at h
    cases h
/-- what is asked behind a quiet step -/
theorem AtS.after {t : T Fl} {C1 : Cf} {n1 : Nat} {H1 : Hp} (k : Ok G C n σ env us H) (s : Step [] C H C1 H1) (w : Wf G C1 n1 H1) (h : t.wp n1 (fun r n' => ∀ C' H' us', Step us C H C' H' → (∀ a ∈ us', a ∈ us ∨ H a = none) → FlP G W C' n' H' us' E r) (fun _ _ => False)) : AtS G W σ env us C1 n1 H1 t E :=
  ⟨k.q s w, T.wp_mono h (fun r m _ z C' H' us' s' hu => z C' H' us' ((s.up (us' := us) (by simp)).trans s' fun x hx => .inl hx) fun a ha => (hu a ha).elim .inl fun e => .inr (s.back e)) fun _ _ _ z => z⟩
/-- behind a step that changes what is owned -/
theorem AtS.afterS {t : T Fl} {C1 : Cf} {n1 : Nat} {H1 : Hp} {σ1 : St} {env1 : Env} {us1 : List Addr} (s : Step us C H C1 H1) (hu1 : ∀ a ∈ us1, a ∈ us ∨ H a = none) (k1 : Ok G C1 n1 σ1 env1 us1 H1) (h : t.wp n1 (fun r n' => ∀ C' H' us', Step us C H C' H' → (∀ a ∈ us', a ∈ us ∨ H a = none) → FlP G W C' n' H' us' E r) (fun _ _ => False)) : AtS G W σ1 env1 us1 C1 n1 H1 t E :=
  ⟨k1, T.wp_mono h (fun r m _ z C' H' us' s' hu => z C' H' us' (s.trans s' hu1) fun a ha => (hu a ha).elim (hu1 a) fun e => .inr (s.back e)) fun _ _ _ z => z⟩
theorem AtS.ret {r : Fl} (h : AtS G W σ env us C n H (.ret r) E) {C' : Cf} {H' : Hp} {us' : List Addr} (s : Step us C H C' H') (hu : ∀ a ∈ us', a ∈ us ∨ H a = none) : FlP G W C' n H' us' E r := h.wp C' H' us' s hu
theorem AtS.ret0 {r : Fl} (h : AtS G W σ env us C n H (.ret r) E) : FlP G W C n H us E r := h.wp C H us (Step.refl _ _ _) fun a m => .inl m
theorem AtS.no (h : AtS G W σ env us C n H .fail E) : False := h.wp
/-- an expression, then k; what it raises is what the statement raises -/
theorem AtS.expr {α β : Type} {R : RR α β} {t : T α} {k : α → T Fl} (h : AtS G W σ env us C n H (t.bindX k fun e => .ret (.ex e env)) E) : At G W R σ env us C n H t (fun v H1 => ∃ C1 n1 d, Step [] C H C1 H1 ∧ R C1 H1 v d ∧ AtS G W σ env us C1 n1 H1 (k d) E) :=
  ⟨h.ok, T.wp_mono (T.wp_bindX h.wp) (fun a m _ z C' H' v s w r => ⟨C', m, a, s, r, AtS.after h.ok s w z⟩)
    (fun e m _ z C' H' cls dx s w r => (z C' H' us (s.up (by simp)) fun a ha => .inl ha) σ cls dx (h.ok.q s w) r)⟩
end
section
variable {G : GC} {W : WX} {σ : St} {env : Env} {us : List Addr} {C : Cf} {n : Nat} {H : Hp} {E : Ends}
theorem AtS.exprW {α β : Type} {R : RR α β} {t : T α} {k : α → T Fl} (h : AtS G W σ env us C n H (t.bindX k fun e => .ret (.ex e env)) E) : At G W R σ env us C n H t (fun v H1 => ∃ C1 n1 d, Step [] C H C1 H1 ∧ R C1 H1 v d ∧ Ok G C1 n1 σ env us H1 ∧
    (k d).wp n1 (fun r n' => ∀ C' H' us', Step us C H C' H' → (∀ a ∈ us', a ∈ us ∨ H a = none) → FlP G W C' n' H' us' E r) (fun _ _ => False)) :=
  ⟨h.ok, T.wp_mono (T.wp_bindX h.wp) (fun a m _ z C' H' v s w r => ⟨C', m, a, s, r, h.ok.q s w, z⟩)
    (fun e m _ z C' H' cls dx s w r => (z C' H' us (s.up (by simp)) fun a ha => .inl ha) σ cls dx (h.ok.q s w) r)⟩
end
def seqS (m k : Env → T Fl) : Env → T Fl := fun env => (m env).bind fun r => match r with
  | .nx env' => k env'
  | r => .ret r
def nxS : Env → T Fl := fun env => .ret (.nx env)
/-- an expression and what is done with it -/
def exS {α : Type} (m : Env → T α) (k : α → Env → T Fl) : Env → T Fl := fun env => (m env).bindX (fun d => k d env) fun e => .ret (.ex e env)
def asgS (i : Nat) (m : Env → T D) : Env → T Fl := exS m fun d env => .ret (.nx (env.set i (some (.fz d))))
def dropS (m : Env → T D) : Env → T Fl := exS m fun _ env => .ret (.nx env)
def retS (m : Env → T D) : Env → T Fl := exS m fun d _ => .ret (.rt d)
def ifS (t : Env → T Bool) (m k : Env → T Fl) : Env → T Fl := exS t fun b env => if b = true then m env else k env
def tgtS (pt : Pt) (m : Env → T D) : Env → T Fl := exS m fun d env => match putP pt d env with
  | some env' => .ret (.nx env')
  | none => .fail
section
variable {X : Cx} {G : GC} {W : WX} {b : Bool} {m k : Env → T Fl} {me : Env → T D} {mt : Env → T Bool} {e a c : Expr} {st : Stmt} {rest ss ss' : List Stmt} {pos : Pos}
theorem ss_nil : PSs X [] (tS G W nxS) := PSs.imp pss_nil fun E σ H h => by
  obtain ⟨C, n, env, us, h⟩ := h
  exact h.ret0 σ h.ok
theorem seq_read {E : Ends} {σ : St} {H : Hp} (h : tS G W (seqS m k) E σ H) : tSeq (tS G W m) (tS G W k) E σ H := by
  obtain ⟨C, n, env, us, h⟩ := h
  refine ⟨C, n, env, us, h.ok, T.wp_mono (T.wp_bind h.wp) (fun r n' _ z C' H' us' s hu => ?_) (fun _ _ _ z => z)⟩
  cases r with
  | nx env' => exact fun σ' ok' => ⟨C', n', env', us', AtS.afterS s hu ok' z⟩
  | rt d => exact z C' H' us' s hu
  | bk env' => exact z C' H' us' s hu
  | ct env' => exact z C' H' us' s hu
  | ex e env' => exact z C' H' us' s hu
  | ro o => exact z C' H' us' s hu
theorem ss_cons (h : PS X st (tS G W m)) (r : PSs X rest (tS G W k)) : PSs X (st :: rest) (tS G W (seqS m k)) := PSs.imp (pss_cons h r) fun E σ H h => seq_read h
theorem ss_one (h : PS X st (tS G W m)) : PSs X [st] (tS G W m) := pss_one h
theorem st_asg {i : Nat} {x : Str} {p : Pos} (hg : PG X (.Name x p) (gName i)) (he : PE X e (tQ G W false me))
    (hs : swapsWithSole [.Name x p] e pos.line X.env = pure false := by rfl) (hw : swappedStores [.Name x p] e X.env = pure none := by rfl) (h1 : (assignEach [.Name x p] X.env).map (·.2) = [assign (.Name x p) X.env] := by rfl) : PS X (.Assign [.Name x p] e pos) (tS G W (asgS i me)) := by
  refine PS.imp (ps_asg he hg hs hw h1) fun E σ H h => ?_
  obtain ⟨C, n, env, us, h⟩ := h
  refine ⟨C, n, env, us, (h.expr (R := rV G false)).imp ?_⟩
  rintro v H1 ⟨C1, n1, d, s1, r1, h1⟩
  obtain ⟨us', k1, sb⟩ := h1.ok.put r1.unview i
  exact h1.ret (Step.refl _ _ _) (fun a m => .inl (sb a m)) _ k1
theorem st_asgC {i : Nat} {y : Str} {py : Pos} {elt tg iter : Expr} {ifs : List Expr} {scope : Scope} {own : List (Str × Nat)} {cpos spos : Pos} {it : Env → T (List D)} {pt : Pt} {tt : Env → T Bool} (hk : X.K = G.K) (hc : X.calm = true) (hN : X.N.Nodup) (hy : X.N[i]? = some y) (hyl : X.env.scope.names.lookup y = some .local)
    (hsw : swapsWith (.ListComp elt [⟨tg, iter, ifs, 0⟩] scope cpos) (some (.Name y py)) spos.line X.env = pure true) (hi : PI X tg iter (tI G W it)) (ok : BlkOk X.N X.env.scope scope own) (hown : ∀ j ∈ pt.slots, j ∈ own.map (·.2))
    (hg : ∀ (s : Shared) (H : Hp) (C : Addr) (cl : List (Str × Addr)) (fp : List Addr), PG (X.blk s H scope (compEnvC scope cl C X.env) fp) tg (gP X.K pt)) (ht : ∀ (s : Shared) (H : Hp) (C : Addr) (cl : List (Str × Addr)) (fp : List Addr), PTs (X.blk s H scope (compEnvC scope cl C X.env) fp) ifs (tT G W0 tt))
    (he : ∀ (s : Shared) (H : Hp) (C : Addr) (cl : List (Str × Addr)) (fp : List Addr), PE (X.blk s H scope (compEnvC scope cl C X.env) fp) elt (tQ G W0 false me)) (hs : ∀ x, foldedSetIterable iter X.env x = pure x := by intro _; rfl) :
    PS X (.Assign [.Name y py] (.ListComp elt [⟨tg, iter, ifs, 0⟩] scope cpos) spos) (tS G W (asgS i (qComp it pt (own.map (·.2)) tt me))) := by
  refine PS.imp (ps_setLc hc hN hy hyl hsw hi ok hg ht he hs) fun E σ H h => comp_read hk hown ?_
  obtain ⟨C, n, env, us, h⟩ := h
  refine ⟨C, n, env, us, (h.expr (R := rV G false)).imp ?_⟩
  rintro v H1 ⟨C1, n1, d, s1, r1, h1⟩
  obtain ⟨us', k1, sb⟩ := h1.ok.put r1.unview i
  exact h1.ret (Step.refl _ _ _) (fun a m => .inl (sb a m)) _ k1
/-- a, b = e (a tuple) -/
theorem st_tgt {pt : Pt} {tg : Expr} (hk : X.K = G.K) (he : PE X e (tQ G W false me)) (hg : PG X tg (gP X.K pt)) (hs : swapsWithSole [tg] e pos.line X.env = pure false := by rfl) (hw : swappedStores [tg] e X.env = pure none := by rfl) (h1 : (assignEach [tg] X.env).map (·.2) = [assign tg X.env] := by rfl) :
    PS X (.Assign [tg] e pos) (tS G W (tgtS pt me)) := by
  refine PS.imp (ps_asg he hg hs hw h1) fun E σ H h => ?_
  obtain ⟨C, n, env, us, h⟩ := h
  refine ⟨C, n, env, us, (h.expr (R := rV G false)).imp ?_⟩
  rintro v H1 ⟨C1, n1, d, s1, r1, h1⟩
  dsimp only at h1
  cases ep : putP pt d env with
  | none => rw [ep] at h1; exact h1.no.elim
  | some env' =>
    rw [ep] at h1
    exact gP_ok hk h1.ok r1.unview ep fun σ' us' ok' sb _ => h1.ret (Step.refl _ _ _) (fun a m => .inl (sb a m)) _ ok'
theorem st_expr (he : PE X e (tQ G W b me)) (hs : swapsWith e none pos.line X.env = pure false := by rfl) : PS X (.Expr e pos) (tS G W (dropS me)) := by
  refine PS.imp (ps_expr he hs) fun E σ H h => ?_
  obtain ⟨C, n, env, us, h⟩ := h
  refine ⟨C, n, env, us, (h.expr (R := rV G b)).imp ?_⟩
  rintro v H1 ⟨C1, n1, d, s1, r1, h1⟩
  exact h1.ret0 σ h1.ok
theorem st_ret (he : PE X e (tQ G W false me)) : PS X (.Return (some e) pos) (tS G W (retS me)) := by
  refine PS.imp (ps_ret he) fun E σ H h => ?_
  obtain ⟨C, n, env, us, h⟩ := h
  refine ⟨C, n, env, us, (h.expr (R := rV G false)).imp ?_⟩
  rintro v H1 ⟨C1, n1, d, s1, r1, h1⟩
  exact h1.ret0 v h1.ok.wf r1.unview
theorem st_if (hc : PT X c (tT G W mt)) (ha : PSs X ss (tS G W m)) (hb : PSs X ss' (tS G W k)) : PS X (.If c ss ss' pos) (tS G W (ifS mt m k)) := by
  refine PS.imp (ps_if hc ha hb) fun E σ H h => ?_
  obtain ⟨C, n, env, us, h⟩ := h
  refine ⟨C, n, env, us, (h.expr (R := rB)).imp ?_⟩
  rintro v H1 ⟨C1, n1, d, s1, r1, h1⟩
  have r1 : v = d := r1
  subst r1
  cases v with
  | true => exact iteT ⟨C1, n1, env, us, h1⟩
  | false => exact iteF ⟨C1, n1, env, us, h1⟩
theorem st_pass : PS X (.Pass pos) (tS G W nxS) := PS.imp ps_pass fun E σ H h => by
  obtain ⟨C, n, env, us, h⟩ := h
  exact h.ret0 σ h.ok
theorem st_break : PS X (.Break pos) (tS G W fun env => .ret (.bk env)) := PS.imp ps_break fun E σ H h => by
  obtain ⟨C, n, env, us, h⟩ := h
  exact h.ret0 σ h.ok
theorem st_continue : PS X (.Continue pos) (tS G W fun env => .ret (.ct env)) := PS.imp ps_continue fun E σ H h => by
  obtain ⟨C, n, env, us, h⟩ := h
  exact h.ret0 σ h.ok
end
/-! ### loops -/
def forL (pt : Pt) (m : Env → T Fl) : List D → Env → T Fl
  | [], env => .ret (.nx env)
  | d :: ds, env => match putP pt d env with
    | none => .fail
    | some env' => (m env').bind fun r => match r with
      | .nx env2 => forL pt m ds env2
      | .ct env2 => forL pt m ds env2
      | .bk env2 => .ret (.nx env2)
      | r => .ret r
def forS (it : Env → T (List D)) (pt : Pt) (m : Env → T Fl) : Env → T Fl := exS it fun ds env => forL pt m ds env
def whileS (t : Env → T Bool) (m : Env → T Fl) : Nat → Env → T Fl
  | 0, _ => .fail
  | f + 1, env => (t env).bindX (fun b => if b = true then (m env).bind fun r => (match r with
      | .nx env2 => whileS t m f env2
      | .ct env2 => whileS t m f env2
      | .bk env2 => .ret (.nx env2)
      | r => .ret r) else .ret (.nx env)) fun e => .ret (.ex e env)
section
variable {X : Cx} {G : GC} {W : WX} {m : Env → T Fl} {mt : Env → T Bool} {c tg iter : Expr} {body : List Stmt} {pos : Pos} {it : Env → T (List D)} {pt : Pt}
theorem st_for (hk : X.K = G.K) (hp : PassesOwn (model X.prog X.w) X.A X.env X.xe) (hc : X.calm = true) (hi : PI X tg iter (tI G W it)) (hg : PG X tg (gP X.K pt)) (hb : PSs X body (tS G W m))
    (hs : ∀ x, foldedSetIterable iter X.env x = pure x := by intro _; rfl) : PS X (.For tg iter body [] pos) (tS G W (forS it pt m)) := by
  refine PS.imp (ps_for hp hc hi hg hb hs) fun E σ H h => ?_
  obtain ⟨C, n, env, us, h⟩ := h
  refine ⟨C, n, env, us, (h.expr (R := rJ G)).imp ?_⟩
  rintro J H1 ⟨C1, n1, ds, s1, y1, h1⟩
  refine ⟨fun i mm σi Hi => mm = ds.length - i ∧ i ≤ ds.length ∧ ∃ Ci ni envi usi, Step us C1 H1 Ci Hi ∧ (∀ a ∈ usi, a ∈ us ∨ H1 a = none) ∧ AtS G W σi envi usi Ci ni Hi (forL pt m (ds.drop i) envi) E, ⟨ds.length, by simp, Nat.zero_le _, C1, n1, env, us, Step.refl _ _ _, fun a z => .inl z, by rw [List.drop_zero]; exact h1⟩, ?_⟩
  rintro i mm σi Hi ⟨rfl, hi, Ci, ni, envi, usi, si, hui, hA⟩
  by_cases hlt : i < ds.length
  · have ei : ds[i]? = some ds[i] := List.getElem?_eq_getElem hlt
    obtain ⟨go, yl⟩ := y1.go Ci Hi si.nx i _ ei
    refine .inr ⟨go, fun σn Hn => i < ds.length ∧ ∃ Ci ni envi usi, Step us C1 H1 Ci Hn ∧ (∀ a ∈ usi, a ∈ us ∨ H1 a = none) ∧ AtS G W σn envi usi Ci ni Hn (forL pt m (ds.drop (i + 1)) envi) E, fun σ' H' p => ⟨ds.length - (i + 1), by omega, rfl, p.1, p.2⟩, fun x H' y => ?_⟩
    obtain ⟨sy, wy, ry⟩ := yl x H' y
    have oky := hA.ok.q sy (wy _ hA.ok.wf)
    have wpi := (AtS.after hA.ok sy (wy _ hA.ok.wf) hA.wp).wp
    rw [List.drop_eq_getElem_cons hlt] at wpi
    unfold forL at wpi
    cases ep : putP pt ds[i] envi with
    | none => rw [ep] at wpi; exact False.elim wpi
    | some env' =>
      rw [ep] at wpi
      refine gP_ok hk oky ry ep fun σ' us' ok' sub' _ => ⟨Ci, ni, env', us', ok', ?_⟩
      refine T.wp_mono (T.wp_bind wpi) (fun r nr _ wr Cr Hr ur sr hur => ?_) (fun _ _ _ z => z)
      have siy : Step us C1 H1 Ci H' := si.trans sy (by simp)
      have sr' : Step usi Ci H' Cr Hr := sr.up sub'
      have hur' : ∀ a ∈ ur, a ∈ usi ∨ H' a = none := fun a ma => (hur a ma).elim (fun z => .inl (sub' a z)) .inr
      have s2 : Step us C1 H1 Cr Hr := siy.trans sr' hui
      have hu2 : ∀ a ∈ ur, a ∈ us ∨ H1 a = none := fun a ma => (hur' a ma).elim (hui a) fun z => .inr (siy.back z)
      have next : ∀ envr σr, Ok G Cr nr σr envr ur Hr → T.wp (forL pt m (ds.drop (i + 1)) envr) nr _ _ → (i < ds.length ∧ ∃ Ci ni envi usi, Step us C1 H1 Ci Hr ∧ (∀ a ∈ usi, a ∈ us ∨ H1 a = none) ∧ AtS G W σr envi usi Ci ni Hr (forL pt m (ds.drop (i + 1)) envi) E) :=
        fun envr σr okr w => ⟨hlt, Cr, nr, envr, ur, s2, hu2, AtS.afterS sr' hur' okr w⟩
      cases r with
      | nx envr => exact fun σr okr => next envr σr okr wr
      | ct envr => exact fun σr okr => next envr σr okr wr
      | bk envr => exact fun σr okr => wr Cr Hr ur sr' hur' σr okr
      | rt d => exact wr Cr Hr ur sr' hur'
      | ro o => exact wr Cr Hr ur sr' hur'
      | ex e envr => exact wr Cr Hr ur sr' hur'
  · have e : i = ds.length := by omega
    subst e
    refine .inl ⟨y1.stop Ci Hi si.nx, ?_⟩
    rw [List.drop_length] at hA
    exact AtS.ret0 (r := .nx envi) hA σi hA.ok
theorem st_while (f : Nat) (hp : PassesOwn (model X.prog X.w) X.A X.env X.xe) (ht : PT X c (tT G W mt)) (hb : PSs X body (tS G W m)) : PS X (.While c body [] pos) (tS G W (whileS mt m f)) := by
  refine PS.imp (ps_while hp ht hb) fun E σ H h => ?_
  obtain ⟨C, n, env, us, h⟩ := h
  refine ⟨fun g σi Hi => ∃ Ci ni envi usi, AtS G W σi envi usi Ci ni Hi (whileS mt m g envi) E, ⟨f, C, n, env, us, h⟩, ?_⟩
  rintro g σi Hi ⟨Ci, ni, envi, usi, hA⟩
  cases g with
  | zero => exact hA.no.elim
  | succ g =>
    refine ⟨Ci, ni, envi, usi, (hA.expr (R := rB)).imp ?_⟩
    rintro v H1 ⟨C1, n1, d, s1, r1, h1⟩
    have r1 : v = d := r1
    subst r1
    cases v with
    | false => exact iteF (AtS.ret0 (r := .nx envi) h1 σi h1.ok)
    | true =>
      refine iteT ⟨fun σ' H' => ∃ Ci ni envi usi, AtS G W σ' envi usi Ci ni H' (whileS mt m g envi) E, fun σ' H' p => ⟨g, Nat.lt_succ_self _, p⟩, C1, n1, envi, usi, h1.ok, ?_⟩
      refine T.wp_mono (T.wp_bind h1.wp) (fun r nr _ wr Cr Hr ur sr hur => ?_) (fun _ _ _ z => z)
      cases r with
      | nx envr => exact fun σr okr => ⟨Cr, nr, envr, ur, AtS.afterS sr hur okr wr⟩
      | ct envr => exact fun σr okr => ⟨Cr, nr, envr, ur, AtS.afterS sr hur okr wr⟩
      | bk envr => exact fun σr okr => wr Cr Hr ur sr hur σr okr
      | rt d => exact wr Cr Hr ur sr hur
      | ro o => exact wr Cr Hr ur sr hur
      | ex e envr => exact wr Cr Hr ur sr hur
end
end Pu
set_option Elab.async false
set_option linter.all false
set_option maxRecDepth 100000
set_option maxHeartbeats 4000000
namespace Pu
open PySem L2 Stp NdefX
open PyProof.Rows hiding St
/-- the promise of a def that runs as m -/
def spM (G : GC) (np : Nat) (m : List D → T D) : Sp := fun vs H Q E => ∃ C n ds, Wf G C n H ∧ RepL G C H vs ds ∧ ds.length = np ∧
  (m ds).wp n (fun d n' => ∀ C' H' v, Step [] C H C' H' → Wf G C' n' H' → Rep G C' H' v d → Q v H') (fun e n' => ∀ C' H' cls dx, Step [] C H C' H' → Wf G C' n' H' → RepX G cls dx e → E cls dx H')
def endF : Fl → T D
  | .rt d => .ret d
  | .nx _ => .ret .non
  | .ex e _ => .ex e
  | _ => .fail
def startE (nN : Nat) (ds : List D) : Env := ds.map (fun d => some (.fz d)) ++ List.replicate (nN - ds.length) none
def runF (nN : Nat) (m : Env → T Fl) (ds : List D) : T D := (m (startE nN ds)).noX.bind endF
section
variable {G : GC} {C : Cf} {H : Hp}
theorem EnvR.nones : ∀ (k : Nat) (σ : St), σ.length = k → EnvR G C H σ (List.replicate k none) []
  | 0, [], _ => .nil
  | k + 1, s :: σ, h => .skip (EnvR.nones k σ (Nat.succ.inj h))
theorem EnvR.start (k : Nat) : ∀ {vs : List V} {ds : List D}, RepL G C H vs ds → EnvR G C H (vs.map some ++ List.replicate k none) (ds.map (fun d => some (.fz d)) ++ List.replicate k none) []
  | _, _, .nil => EnvR.nones k _ (List.length_replicate ..)
  | _, _, .cons r l => .has (us1 := []) (.fz r) (EnvR.start k l)
theorem sp_read {N : List Str} {np : Nat} {m : Env → T Fl} {vs : List V} {Q : VK} {E : XK} (h : spM G np (runF N.length m) vs H Q E) : tS G (fun cls d _ H => E cls d H) m { nx := fun _ H' => Q .non H', rt := Q } (L2.start N vs) H := by
  obtain ⟨C, n, ds, wf, rl, hl, w⟩ := h
  have er : EnvR G C H (L2.start N vs) (startE N.length ds) [] := by
    unfold L2.start startE
    rw [rl.length]
    exact EnvR.start _ rl
  refine ⟨C, n, startE N.length ds, [], ⟨wf, er, List.nodup_nil, fun a m => absurd m (by simp)⟩, ?_⟩
  refine T.wp_mono (T.wp_noX (E' := fun _ _ => False) (T.wp_bind w)) (fun r n' _ z C' H' us' s hu => ?_) (fun e n' _ z => z)
  · cases r with
    | nx env => exact fun σ ok => z C' H' .non s ok.wf .non
    | rt d => exact fun v wf' rv => z C' H' v s wf' rv
    | ro o => exact False.elim z
    | bk env => exact False.elim z
    | ct env => exact False.elim z
    | ex e env => exact fun σ cls dx ok rx => z C' H' cls dx s ok.wf rx
end
section
variable {P : Program} {w : World} {K : PySem.W.Frag} {mg : Str → Option Value} {base : Heap} {G : GC}
theorem spM_len {np : Nat} {m : List D → T D} {vs : List V} {H : Hp} {Q : VK} {E : XK} (h : spM G np m vs H Q E) : vs.length = np := by
  obtain ⟨C, n, ds, wf, rl, hl, _⟩ := h
  rw [rl.length, hl]
/-- a def by its body -/
theorem fn_ok {x qual : Str} {st : Stmt} {f : Addr} {fd : FuncData} {N ps : List Str} {k : Nat} {m : Env → T Fl} (F : Fun K x qual st f fd) (S : FnScope N ps (defScope st))
    (hb : ∀ (cdv : Value) (A : Around) (outer : List PySem.Env) (s : Shared) (H : Hp) (E : XK), Room k (A.deeper (envOfC qual (defScope st) s.heap.objs.size f cdv)) →
      PSs (cxOf (L2.CX P w) P w K mg base N qual (defScope st) f cdv A outer s H E) (defBody st) (tS G (fun cls d _ H => E cls d H) m)) : FnOk P w K mg base (L2.CX P w) (k + 1) f fd ps (spM G ps.length (runF N.length m)) :=
  F.okX S (fun vs H Q E h => spM_len h) fun cdv A outer s H vs Q E hr h => ⟨_, hb cdv A outer s H E hr, sp_read h⟩
end
section
variable {X : Cx} {G : GC} {W : WX} {k : Nat} {f : Addr} {fd : FuncData} {ps : List Str} {x : Str} {p pos : Pos} {e : Expr} {es : List Expr} {ma : Env → T (List D)} {mf : List D → T D}
theorem call_read {np : Nat} {σ : St} {H : Hp} {Q : VK} (hn : ∀ ds, (mf ds).wp 0 (fun _ _ => True) (fun _ _ => True) → ds.length = np ∨ True) (h : tQ G W false (qN (fun ds => grd (ds.length = np) (mf ds)) ma) σ H Q) : tCallS (spM G np mf) (WE W) (tA G W false ma) σ H Q := by
  obtain ⟨C, n, env, us, h⟩ := h
  refine ⟨C, n, env, us, (h.bind (R := rA G false)).imp ?_⟩
  rintro vs H1 ⟨C1, n1, ds, s1, r1, h1⟩
  obtain ⟨hl, h1⟩ := h1.grd
  refine ⟨C1, n1, ds, h1.ok.wf, r1.nx (Nx.unview _ _), hl, T.wp_mono h1.wp (fun d n' _ z C' H' v s w r => z C' H' v s w (r.view false)) (fun e n' _ z C' H' cls dx s w r => z C' H' cls dx s w r)⟩
/-- f(..) of a def -/
theorem s_call (tk : Takes X W) (F : FnOk X.prog X.w X.K X.mg X.base (L2.CX X.prog X.w) k f fd ps (spM G ps.length mf)) (hr : Room k X.A) (hg : Gl X x) (hm : X.mg x = some (.ref f)) (hk : PySem.W.keepIn X.K (.ref f) = true) (hb : Binds X.K fd ps [])
    (ha : PA X (e :: es) (tA G W false ma)) (hdb : (x == ("__debug__" : Str)) = false := by decide) (he : starEach (e :: es) X.env = (false, eval e X.env) :: starEach es X.env := by rfl) (hpl : (backTo pos (starEach es X.env)).any (·.1) = false := by rfl) :
    PE X (.Call (.Name x p) (e :: es) [] pos) (tQ G W false (qN (fun ds => grd (ds.length = ps.length) (mf ds)) ma)) := PE.imp (pe_callS F hr hg hm hk hb (fun σ => passAt tk σ) ha hdb he hpl) fun σ H Q h => call_read (fun _ _ => .inr trivial) h
end
end Pu
set_option Elab.async false
set_option linter.all false
set_option maxRecDepth 100000
set_option maxHeartbeats 4000000
namespace Pu
open PySem L2 Stp NdefX
open PyProof.Rows hiding St
/-! ### things of one's own -/
/-- a thing that was made behind H0 and is nobody else's -/
def rN (G : GC) (H0 : Hp) : RR O V := fun C H v o => ∃ us1, OwnR G C H v o us1 ∧ us1.Nodup ∧ ∀ a ∈ us1, ¬ C.F a ∧ a ∉ C.pa ∧ H0 a = none ∧ ∃ u, H a = some u ∧ noTbl u
def tN (G : GC) (W : WX) (m : Env → T O) : TE := fun σ H Q => ∃ C n env us, At G W (rN G H) σ env us C n H (m env) Q
def oQ (m : Env → T D) : Env → T O := fun env => (m env).bind fun d => .ret (.fz d)
def oL (m : Env → T (List D)) : Env → T O := fun env => (m env).bind fun ds => grd (ds.length ≤ big) (.ret (.ls ds))
theorem rN_ls {G : GC} {C C1 : Cf} {n : Nat} {H0 H1 : Hp} {p : Addr} {vs : List V} {ds : List D} (s : Step [] C H0 C1 H1) (w : Wf G C1 n H1) (hp : H1 p = none) (r : RepL G C1 H1 vs ds) : rN G H0 C1 (upd H1 p (.lst vs)) (.ref p) (.ls ds) := by
  refine ⟨[p], .ls upd_same (r.nx (step_tup hp).nx), by simp, fun a m => ?_⟩
  rw [List.mem_singleton.mp m]
  refine ⟨fun z => ?_, w.pne hp, s.back hp, _, upd_same, fun _ z => nomatch z⟩
  obtain ⟨⟨o, e, _⟩, _⟩ := w.fz p z
  rw [hp] at e
  cases e
section
variable {X : Cx} {G : GC} {W : WX} {b : Bool} {m : Env → T D} {ma : Env → T (List D)} {mo mo' : Env → T O} {e : Expr} {es : List Expr} {pos : Pos}
theorem n_q (h : PE X e (tQ G W false m)) : PE X e (tN G W (oQ m)) := by
  refine PE.imp h fun σ H Q k => ?_
  obtain ⟨C, n, env, us, k⟩ := k
  refine ⟨C, n, env, us, (k.bind (R := rV G false)).imp ?_⟩
  rintro v H1 ⟨C1, n1, d, s1, r1, h1⟩
  exact h1.ret ⟨[], .fz r1.unview, by simp, fun a m => absurd m (by simp)⟩
theorem n_lst (h : PA X es (tA G W false ma)) : PE X (.List es pos) (tN G W (oL ma)) := by
  refine PE.imp (pe_lst h) fun σ H Q k => ?_
  obtain ⟨C, n, env, us, k⟩ := k
  refine ⟨C, n, env, us, (k.bind (R := rA G false)).imp ?_⟩
  rintro vs H1 ⟨C1, n1, ds, s1, r1, h1⟩
  obtain ⟨hl, h1⟩ := h1.grd
  refine ⟨by rw [r1.length]; exact Nat.le_trans hl (by decide), fun p hp => h1.retS (step_tup hp) (h1.ok.wf.tup hp) (rN_ls s1 h1.ok.wf hp (r1.nx (Nx.unview _ _)))⟩
theorem n_dK : PE X (.Dict [] [] pos) (tN G W fun _ => .ret (.dk [])) := by
  refine PE.imp pe_dnewK fun σ H Q k => ?_
  obtain ⟨C, n, env, us, k⟩ := k
  intro p hp
  refine k.retS (step_tup hp) (k.ok.wf.tup hp) ⟨[p], .dk upd_same .nil, by simp, fun a m => ?_⟩
  rw [List.mem_singleton.mp m]
  refine ⟨fun z => ?_, k.ok.wf.pne hp, hp, _, upd_same, fun _ z => nomatch z⟩
  obtain ⟨⟨o, e, _⟩, _⟩ := k.ok.wf.fz p z
  rw [hp] at e
  cases e
theorem n_dT : PE X (.Dict [] [] pos) (tN G W fun _ => .ret (.dt [])) := by
  refine PE.imp pe_dnewT fun σ H Q k => ?_
  obtain ⟨C, n, env, us, k⟩ := k
  intro p hp
  refine k.retS (step_tup hp) (k.ok.wf.tup hp) ⟨[p], .dt upd_same .nil, by simp, fun a m => ?_⟩
  rw [List.mem_singleton.mp m]
  refine ⟨fun z => ?_, k.ok.wf.pne hp, hp, _, upd_same, fun _ z => nomatch z⟩
  obtain ⟨⟨o, e, _⟩, _⟩ := k.ok.wf.fz p z
  rw [hp] at e
  cases e
end
section
variable {G : GC} {C : Cf} {n : Nat} {H : Hp}
theorem EnvR.putO {v : V} {o : O} {us1 : List Addr} (ro : OwnR G C H v o us1) : ∀ {σ : St} {env : Env} {us : List Addr} (i : Nat), EnvR G C H σ env us → ∃ us', EnvR G C H (σ.set i (some v)) (env.set i (some o)) us' ∧ ((us1 ++ us).Nodup → us'.Nodup) ∧ ∀ a ∈ us', a ∈ us1 ∨ a ∈ us
  | _, _, _, _, .nil => ⟨[], .nil, fun _ => by simp, fun a m => absurd m (by simp)⟩
  | _, _, us, 0, .skip r => ⟨us1 ++ us, .has ro r, id, fun a m => List.mem_append.mp m⟩
  | _, _, _, i + 1, .skip r => by
    obtain ⟨us', h1, h2, h3⟩ := EnvR.putO ro i r
    exact ⟨us', .skip h1, h2, h3⟩
  | _, _, _, 0, .has (us1 := u1) (us := us) _ r => ⟨us1 ++ us, .has ro r, fun nd => nd.sublist ((List.Sublist.refl us1).append (List.sublist_append_right u1 us)), fun a m => (List.mem_append.mp m).elim .inl fun z => .inr (List.mem_append_right _ z)⟩
  | _, _, _, i + 1, .has (us1 := u1) (us := us) q r => by
    obtain ⟨us', h1, h2, h3⟩ := EnvR.putO ro i r
    refine ⟨u1 ++ us', .has q h1, fun nd => ?_, fun a m => ?_⟩
    · have nd2 : (u1 ++ (us1 ++ us)).Nodup := by
        rw [← List.append_assoc]
        exact (List.perm_append_comm.append_right us).nodup (by rw [List.append_assoc]; exact nd)
      rw [List.nodup_append] at nd2 ⊢
      refine ⟨nd2.1, h2 nd2.2.1, fun a ha c hc => ?_⟩
      exact nd2.2.2 a ha c (by
        rcases h3 c hc with z | z
        · exact List.mem_append_left _ z
        · exact List.mem_append_right _ z)
    · rcases List.mem_append.mp m with z | z
      · exact .inr (List.mem_append_left _ z)
      · rcases h3 a z with z | z
        · exact .inl z
        · exact .inr (List.mem_append_right _ z)
theorem Ok.putO {σ : St} {env : Env} {us us1 : List Addr} {o : O} {v : V} (k : Ok G C n σ env us H) (ro : OwnR G C H v o us1) (nd : us1.Nodup) (h : ∀ a ∈ us1, ¬ C.F a ∧ a ∉ C.pa ∧ a ∉ us ∧ ∃ u, H a = some u ∧ noTbl u) (i : Nat) : ∃ us', Ok G C n (σ.set i (some v)) (env.set i (some o)) us' H ∧ ∀ a ∈ us', a ∈ us1 ∨ a ∈ us := by
  obtain ⟨us', h1, h2, h3⟩ := k.env.putO ro i
  refine ⟨us', ⟨k.wf, h1, h2 ?_, fun a m => ?_⟩, h3⟩
  · rw [List.nodup_append]
    exact ⟨nd, k.nd, fun a ha c hc z => (h a ha).2.2.1 (by rw [z]; exact hc)⟩
  · rcases h3 a m with z | z
    · exact ⟨(h a z).1, (h a z).2.1, (h a z).2.2.2⟩
    · exact k.us a z
end
def asgO (i : Nat) (m : Env → T O) : Env → T Fl := exS m fun o env => .ret (.nx (env.set i (some o)))
def parO (i j : Nat) (m k : Env → T O) : Env → T Fl := exS (fun env => (m env).bind fun a => (k env).bind fun b => .ret (a, b)) fun p env => .ret (.nx ((env.set i (some p.1)).set j (some p.2)))
section
variable {X : Cx} {G : GC} {W : WX} {mo mk : Env → T O} {e a c : Expr} {pos : Pos}
theorem own_new {C C1 : Cf} {n n1 : Nat} {H H1 : Hp} {σ : St} {env : Env} {us : List Addr} {v : V} {o : O} (k : Ok G C n σ env us H) (k1 : Ok G C1 n1 σ env us H1) (r : rN G H C1 H1 v o) (i : Nat) : ∃ us', Ok G C1 n1 (σ.set i (some v)) (env.set i (some o)) us' H1 ∧ ∀ a ∈ us', a ∈ us ∨ H a = none := by
  obtain ⟨us1, ro, nd, hu⟩ := r
  have nu : ∀ a ∈ us1, a ∉ us := fun a m z => by
    obtain ⟨_, _, u, e, _⟩ := k.us a z
    rw [(hu a m).2.2.1] at e
    cases e
  obtain ⟨us', k2, h2⟩ := k1.putO ro nd (fun a m => ⟨(hu a m).1, (hu a m).2.1, nu a m, (hu a m).2.2.2⟩) i
  exact ⟨us', k2, fun a m => (h2 a m).elim (fun z => .inr (hu a z).2.2.1) .inl⟩
theorem st_asgO {i : Nat} {x : Str} {p : Pos} (hg : PG X (.Name x p) (gName i)) (he : PE X e (tN G W mo))
    (hs : swapsWithSole [.Name x p] e pos.line X.env = pure false := by rfl) (hw : swappedStores [.Name x p] e X.env = pure none := by rfl) (h1 : (assignEach [.Name x p] X.env).map (·.2) = [assign (.Name x p) X.env] := by rfl) : PS X (.Assign [.Name x p] e pos) (tS G W (asgO i mo)) := by
  refine PS.imp (ps_asg he hg hs hw h1) fun E σ H h => ?_
  obtain ⟨C, n, env, us, h⟩ := h
  refine ⟨C, n, env, us, (h.exprW (R := rN G H)).imp ?_⟩
  rintro v H1 ⟨C1, n1, o, s1, r1, k1, w1⟩
  obtain ⟨us', k2, sb⟩ := own_new h.ok k1 r1 i
  exact w1 C1 H1 us' (s1.up (by simp)) sb _ k2
/-- x, y = e1, e2: two different local names -/
theorem st_parO {i j : Nat} {x y : Str} {px py pt : Pos} {kt k2 pt2} (hc : X.calm = true) (hN : X.N.Nodup) (hi : X.N[i]? = some x) (hj : X.N[j]? = some y) (hij : i ≠ j)
    (hx : X.env.scope.names.lookup x = some .local) (hy : X.env.scope.names.lookup y = some .local) (ha : PE X a (tN G W mo)) (hb : PE X c (tN G W mk))
    (hw : swappedStores [.Tuple [.Name x px, .Name y py] kt pt] (.Tuple [a, c] k2 pt2) X.env = pure (some [x, y]))
    (hs : swapsWithSole [.Tuple [.Name x px, .Name y py] kt pt] (.Tuple [a, c] k2 pt2) pos.line X.env = pure false := by rfl) (hs1 : starEach [a, c] X.env = (false, eval a X.env) :: starEach [c] X.env := by rfl) (hs2 : starEach [c] X.env = (false, eval c X.env) :: starEach [] X.env := by rfl) :
    PS X (.Assign [.Tuple [.Name x px, .Name y py] kt pt] (.Tuple [a, c] k2 pt2) pos) (tS G W (parO i j mo mk)) := by
  refine PS.imp (ps_par hc hN hi hj hij hx hy (pa_cons ha (pa_cons hb pa_nil hs2) hs1) hw hs) fun E σ H h => ?_
  obtain ⟨C, n, env, us, h⟩ := h
  refine ⟨C, n, env, us, h.ok, T.wp_mono (T.wp_bind (T.wp_bindX h.wp)) ?_ ?_⟩
  · intro o1 n1 _ z C1 H1 v1 s1 w1 r1
    have k1 := h.ok.q s1 w1
    refine ⟨C1, n1, env, us, k1, T.wp_mono (T.wp_bind z) ?_ ?_⟩
    · intro o2 n2 _ z2 C2 H2 v2 s2 w2 r2
      have k2 := k1.q s2 w2
      have s12 := s1.trans s2 (by simp)
      obtain ⟨us1, ro1, nd1, hu1⟩ := r1
      have keep : ∀ a ∈ us1, ∀ u, H1 a = some u → H2 a = some u := fun a m u e => by
        obtain ⟨_, q2, _, u', e', t⟩ := hu1 a m
        rw [e] at e'
        cases e'
        exact s2.kp a u e t (by simp) q2
      have c1 : ∀ a ∈ us1, ¬ C2.F a ∧ a ∉ C2.pa ∧ a ∉ us ∧ ∃ u, H2 a = some u ∧ noTbl u := fun a m => by
        obtain ⟨q1, q2, q3, u, e, t⟩ := hu1 a m
        refine ⟨fun z => ?_, fun z => ?_, fun z => ?_, u, keep a m u e, t⟩
        · rcases s2.fn a z with z | z | z
          · exact q1 z
          · cases z
          · rw [e] at z; cases z
        · rcases s2.pf a z with z | z
          · exact q2 z
          · rw [e] at z; cases z
        · obtain ⟨_, _, u', e', _⟩ := h.ok.us a z
          rw [q3] at e'; cases e'
      obtain ⟨us2, ro2, nd2, hu2⟩ := r2
      obtain ⟨us3, k3, h3⟩ := k2.putO (ro1.nx s2.nx s2.me keep) nd1 c1 i
      have nu : ∀ a ∈ us2, a ∉ us3 := fun a m z => by
        have q3 := (hu2 a m).2.2.1
        rcases h3 a z with y | y
        · obtain ⟨_, _, _, u', e', _⟩ := hu1 a y
          rw [q3] at e'; cases e'
        · obtain ⟨_, _, u', e', _⟩ := k1.us a y
          rw [q3] at e'; cases e'
      obtain ⟨us4, k4, h4⟩ := k3.putO ro2 nd2 (fun a m => ⟨(hu2 a m).1, (hu2 a m).2.1, nu a m, (hu2 a m).2.2.2⟩) j
      refine ⟨v1, v2, rfl, ?_⟩
      exact z2 C2 H2 us4 (s12.up (by simp)) (fun a m => (h4 a m).elim (fun z => .inr (s1.back (hu2 a z).2.2.1)) fun y => (h3 a y).elim (fun z => .inr (hu1 a z).2.2.1) .inl) _ k4
    · intro e2 n2 _ z2 C2 H2 cls dx s2 w2 rx
      exact z2 C2 H2 us ((s1.trans s2 (by simp)).up (by simp)) (fun a m => .inl m) σ cls dx (k1.q s2 w2) rx
  · intro e1 n1 _ z C1 H1 cls dx s1 w1 rx
    exact z C1 H1 us (s1.up (by simp)) (fun a m => .inl m) σ cls dx (h.ok.q s1 w1) rx
end
/-! ### changes -/
/-- what a slot owns changes its place's object -/
theorem EnvR.mutO {G : GC} {C : Cf} {H H' : Hp} {o o' : O} {p : Addr} {v0 : V} (nx : Nx C C H H') (kp : ∀ a, a ≠ p → ∀ u, H a = some u → H' a = some u) : ∀ {σ : St} {env : Env} {us : List Addr} {i : Nat}, EnvR G C H σ env us → us.Nodup → σ[i]? = some (some v0) → env[i]? = some (some o) → (∀ us1, OwnR G C H v0 o us1 → p ∈ us1 ∧ OwnR G C H' v0 o' us1) → EnvR G C H' σ (env.set i (some o')) us
  | _, _, _, _, .nil, _, _, e, _ => by simp at e
  | _, _, _, 0, .skip _, _, _, e, _ => by simp at e
  | _, _, _, i + 1, .skip r, nd, f, e, h => .skip (EnvR.mutO nx kp (i := i) r nd (by simpa using f) (by simpa using e) h)
  | _, _, _, 0, .has (us1 := u1) (us := us) q r, nd, f, e, h => by
    simp at e f
    subst e f
    obtain ⟨hp, q'⟩ := h _ q
    rw [List.nodup_append] at nd
    exact .has q' (r.nx nx rfl fun a m u e => kp a (fun z => nd.2.2 p hp a m z.symm) u e)
  | _, _, _, i + 1, .has (v := v) (o := o2) (us1 := u1) (us := us) q r, nd, f, e, h => by
    rw [List.nodup_append] at nd
    have ih := EnvR.mutO nx kp (i := i) r nd.2.1 (by simpa using f) (by simpa using e) h
    obtain ⟨v3, us3, f3, q3, m3⟩ := r.at (i := i) (o := o) (by simpa using e)
    have ev : v3 = v0 := by
      simp at f
      rw [f3] at f
      injection f with f
      injection f
    subst ev
    have hp : p ∈ us := m3 p (h us3 q3).1
    exact .has (q.nx nx rfl fun a m u e => kp a (fun z => nd.2.2 a m p hp z) u e) ih
section
variable {G : GC} {C : Cf} {n : Nat} {H : Hp} {σ : St} {env : Env} {us : List Addr} {i : Nat}
/-- the object that a slot owns is replaced -/
theorem Ok.mutA {o o' : O} {u u' : HO} {a : Addr} (k : Ok G C n σ env us H) (f : σ[i]? = some (some (.ref a))) (e : env[i]? = some (some o)) (ma : a ∈ us) (hp : H a = some u) (h1 : ∀ xs, u ≠ .tup xs) (h2 : ∀ x y, u ≠ .frz x y) (h3 : ∀ φ, u ≠ .ext φ) (t' : noTbl u')
    (h : Nx C C H (upd H a u') → ∀ us1, OwnR G C H (.ref a) o us1 → a ∈ us1 ∧ OwnR G C (upd H a u') (.ref a) o' us1) : Ok G C n σ (env.set i (some o')) us (upd H a u') ∧ Step us C H C (upd H a u') := by
  obtain ⟨nf, np, w, e1, t⟩ := k.us a ma
  rw [hp] at e1
  cases e1
  have ne : ∀ b w, H b = some w → w ≠ u → upd H a u' b = some w := fun b w h d => by
    rw [upd_ne (fun z => d (by rw [z, hp] at h; exact (Option.some.inj h).symm))]
    exact h
  have nx : Nx C C H (upd H a u') := ⟨fun b w f h _ => ⟨f, by rw [upd_ne (fun z => nf (by rw [← z]; exact f))]; exact h⟩, (fun b xs h => ne b _ h fun z => h1 xs z.symm), (fun b w x h => ne b _ h fun z => h2 w x z.symm), (fun b φ h => ne b _ h fun z => h3 φ z.symm), fun _ h => h⟩
  have kp : ∀ b, b ≠ a → ∀ w, H b = some w → upd H a u' b = some w := fun b hb w h => by rw [upd_ne hb]; exact h
  refine ⟨⟨k.wf.mut hp nf np t h3, EnvR.mutO nx kp k.env k.nd f e (h nx), k.nd, fun b m => ?_⟩, fun b w q _ nu _ => ?_, fun b w q => ?_, nx, fun b z => .inl z, fun b z => .inl z, rfl⟩
  · obtain ⟨q1, q2, w, q3, q4⟩ := k.us b m
    refine ⟨q1, q2, ?_⟩
    by_cases hb : b = a
    · rw [hb]
      exact ⟨u', upd_same, t'⟩
    · exact ⟨w, kp b hb w q3, q4⟩
  · exact kp b (fun z => nu (by rw [z]; exact ma)) w q
  · by_cases hb : b = a
    · rw [hb]
      exact ⟨u', upd_same⟩
    · exact ⟨w, kp b hb w q⟩
/-- the list of a slot -/
theorem Ok.atLs {ds : List D} (k : Ok G C n σ env us H) (e : env[i]? = some (some (.ls ds))) : ∃ a vs, σ[i]? = some (some (.ref a)) ∧ H a = some (.lst vs) ∧ RepL G C H vs ds ∧ a ∈ us ∧ a ∉ C.pa := by
  obtain ⟨v, us1, h1, h2, h3⟩ := k.env.at e
  cases h2 with
  | @ls a vs _ hp l => exact ⟨a, vs, h1, hp, l, h3 a (List.mem_singleton.mpr rfl), (k.us a (h3 a (List.mem_singleton.mpr rfl))).2.1⟩
theorem Ok.atDk {ds : List (Key × D)} (k : Ok G C n σ env us H) (e : env[i]? = some (some (.dk ds))) : ∃ a vs, σ[i]? = some (some (.ref a)) ∧ H a = some (.dK vs) ∧ RepK G C H vs ds ∧ a ∈ us ∧ a ∉ C.pa := by
  obtain ⟨v, us1, h1, h2, h3⟩ := k.env.at e
  cases h2 with
  | @dk a vs _ hp l => exact ⟨a, vs, h1, hp, l, h3 a (List.mem_singleton.mpr rfl), (k.us a (h3 a (List.mem_singleton.mpr rfl))).2.1⟩
theorem Ok.atDt {ds : List (List Key × D)} (k : Ok G C n σ env us H) (e : env[i]? = some (some (.dt ds))) : ∃ a vs, σ[i]? = some (some (.ref a)) ∧ H a = some (.dT vs) ∧ RepT G C H vs ds ∧ a ∈ us ∧ a ∉ C.pa := by
  obtain ⟨v, us1, h1, h2, h3⟩ := k.env.at e
  cases h2 with
  | @dt a vs _ hp l => exact ⟨a, vs, h1, hp, l, h3 a (List.mem_singleton.mpr rfl), (k.us a (h3 a (List.mem_singleton.mpr rfl))).2.1⟩
theorem Ok.setLs {ds ds' : List D} {vs vs' : List V} {a : Addr} (k : Ok G C n σ env us H) (f : σ[i]? = some (some (.ref a))) (e : env[i]? = some (some (.ls ds))) (hp : H a = some (.lst vs)) (ma : a ∈ us) (r' : RepL G C H vs' ds') :
    Ok G C n σ (env.set i (some (.ls ds'))) us (upd H a (.lst vs')) ∧ Step us C H C (upd H a (.lst vs')) :=
  k.mutA f e ma hp (fun _ z => by cases z) (fun _ _ z => by cases z) (fun _ z => by cases z) (fun _ z => by cases z) fun nx us1 q => by
    cases q with
    | ls hq lq => exact ⟨List.mem_singleton.mpr rfl, .ls upd_same (r'.nx nx)⟩
theorem Ok.setDk {ds ds' : List (Key × D)} {vs vs' : List (Key × V)} {a : Addr} (k : Ok G C n σ env us H) (f : σ[i]? = some (some (.ref a))) (e : env[i]? = some (some (.dk ds))) (hp : H a = some (.dK vs)) (ma : a ∈ us) (r' : RepK G C H vs' ds') :
    Ok G C n σ (env.set i (some (.dk ds'))) us (upd H a (.dK vs')) ∧ Step us C H C (upd H a (.dK vs')) :=
  k.mutA f e ma hp (fun _ z => by cases z) (fun _ _ z => by cases z) (fun _ z => by cases z) (fun _ z => by cases z) fun nx us1 q => by
    cases q with
    | dk hq lq => exact ⟨List.mem_singleton.mpr rfl, .dk upd_same (r'.nx nx)⟩
theorem Ok.setDt {ds ds' : List (List Key × D)} {vs vs' : List (List Key × V)} {a : Addr} (k : Ok G C n σ env us H) (f : σ[i]? = some (some (.ref a))) (e : env[i]? = some (some (.dt ds))) (hp : H a = some (.dT vs)) (ma : a ∈ us) (r' : RepT G C H vs' ds') :
    Ok G C n σ (env.set i (some (.dt ds'))) us (upd H a (.dT vs')) ∧ Step us C H C (upd H a (.dT vs')) :=
  k.mutA f e ma hp (fun _ z => by cases z) (fun _ _ z => by cases z) (fun _ z => by cases z) (fun _ z => by cases z) fun nx us1 q => by
    cases q with
    | dt hq lq => exact ⟨List.mem_singleton.mpr rfl, .dt upd_same (r'.nx nx)⟩
end
end Pu
set_option Elab.async false
set_option linter.all false
set_option maxRecDepth 100000
set_option maxHeartbeats 4000000
/-! list.extend of a tuple -/
namespace Pu
open PySem L2 Stp NdefX PyProof PySem.AutoSeq1
open PyProof.Rows hiding St
theorem ext_tuple (l : Addr) (items : Array Value) (n : Nat) (b : Addr) (od : Option Addr) (sl : Array (Option Value)) (items2 : Array Value) (n2 : Nat) (hs0 : ¬(!items.isEmpty && Builtin.List.listTooLong (items.size + items2.size)) = true) (hs1 : items.size ≤ sizeLine) (hs2 : items.size + items2.size ≤ sizeLine + 1) :
    Meets (Builtin.«list.extend» ⟨[.ref l, .ref b], []⟩) (fun _ R s => s.heap.get? l = some { cls := .type "list", dict := none, data := .seq items n, slots := #[] } ∧ s.heap.get? b = some { cls := .type "tuple", dict := od, data := .seq items2 n2, slots := sl } ∧ R (.ok (.ret Value.none)) { s with heap := s.heap.update l (Obj.mapSeq fun x => x ++ items2), toks := s.toks }) :=
  .of_wp fun prog w A R s h => by
    obtain ⟨hp, g, d, tk, os⟩ := s; obtain ⟨hl, hb, h⟩ := h
    have f1 := idx_int
    have f2 := AutoSeq1.sub_tuple_tuple
    have f3 := AutoSeq1.sub_list_list
    have f4 := AutoSeq1.sub_tuple_list
    have f5 := AutoSeq1.sub_list_tuple
    have hz' : (items ++ items2).size ≤ sizeLine + 1 := by rw [Array.size_append]; exact hs2
    wp_walk using (wpAny_updateSeq hl rfl (hz := hs1) (_hz' := hz')), wpAny_loadPart' hl, wpAny_loadPart' hb; exact ⟨_, rfl, h⟩
section
variable {X : Cx}
def rExtendT (K : PySem.W.Frag) : V → List V → Hp → VK → Prop := fun x vs H Q => ∃ l b xs zs, x = .ref l ∧ vs = [.ref b] ∧ H l = some (.lst xs) ∧ SqT K H b zs ∧ xs.length + zs.length ≤ sizeLine ∧ Q .non (upd H l (.lst (xs ++ zs)))
theorem mt_extendT : MtM X "list.extend" (rExtendT X.K) := by
  intro pins s σ H x vs v us Q I rx rv h
  obtain ⟨l, b, xs, zs, rfl, rfl, hH, hB, hz, q⟩ := h
  cases rx
  obtain ⟨u, rfl, ru⟩ := rv.one
  cases ru
  obtain ⟨z, its, n, r, hl, e⟩ := I.lstM hH
  obtain ⟨its2, r2, ⟨o, e2, hc, n2, hd⟩, hz2⟩ := I.tuple hB
  have hl2 := r2.length
  have hsz : its.toArray.size + its2.toArray.size ≤ sizeLine := by rw [List.size_toArray, List.size_toArray]; omega
  have hlong : ¬ (!its.toArray.isEmpty && Builtin.List.listTooLong (its.toArray.size + its2.toArray.size)) = true := by
    rw [notLongL hsz, Bool.and_false]
    exact Bool.false_ne_true
  obtain ⟨oc, od, dt, sl⟩ := o
  have hc : oc = .type "tuple" := hc
  have hd : dt = .seq its2.toArray n2 := hd
  subst hc
  subst hd
  refine call_meets F.slot_list_extend ⟨_, e, rfl⟩ F.entry_list_extend (F.args_list_extend_2 _ _)
    (ext_tuple l its.toArray n b od sl its2.toArray n2 hlong (by rw [List.size_toArray]; omega) (by omega)) ⟨e, e2, ?_⟩
  refine ⟨.non, _, I.lset (its' := its ++ its2) hH e (by simp) (r.append r2) ?_, rfl, q⟩
  rw [List.length_append]
  omega
theorem MtM.or2 {id : String} {r r' : V → List V → Hp → VK → Prop} (h : MtM X id r) (h' : MtM X id r') : MtM X id (fun x vs H Q => r x vs H Q ∨ r' x vs H Q) := by
  intro pins s σ H x vs v us Q I rx rv q
  rcases q with q | q
  · exact h pins s σ H x vs v us Q I rx rv q
  · exact h' pins s σ H x vs v us Q I rx rv q
end
end Pu
set_option Elab.async false
set_option linter.all false
set_option maxRecDepth 100000
set_option maxHeartbeats 4000000
namespace Pu
open PySem L2 Stp NdefX
open PyProof.Rows hiding St
/-! ### statements that change a list or a dict of one's own -/
def ownL (i : Nat) (env : Env) (k : List D → T Fl) : T Fl := match env[i]? with
  | some (some (.ls xs)) => k xs
  | _ => .fail
def appS (i : Nat) (m : Env → T D) : Env → T Fl := fun env => ownL i env fun xs => exS m (fun d env => grd (xs.length ≤ big) (.ret (.nx (env.set i (some (.ls (xs ++ [d]))))))) env
def extS (i : Nat) (m : Env → T D) : Env → T Fl := fun env => ownL i env fun xs => exS m (fun d env => match d with
  | .lst ys => grd (xs.length + ys.length ≤ big) (.ret (.nx (env.set i (some (.ls (xs ++ ys))))))
  | .tup ys => grd (xs.length + ys.length ≤ big) (.ret (.nx (env.set i (some (.ls (xs ++ ys))))))
  | _ => .fail) env
def setS (i : Nat) (mi m : Env → T D) : Env → T Fl := fun env => ownL i env fun xs => exS (fun env => (m env).bind fun d => (mi env).bind fun j => .ret (d, j)) (fun p env => match p.2 with
  | .int k => (match ixN xs.length k with
    | some j => .ret (.nx (env.set i (some (.ls (xs.set j p.1)))))
    | none => .fail)
  | _ => .fail) env
def putD {κ : Type} [DecidableEq κ] (kvs : List (κ × D)) (k : κ) (v : D) : List (κ × D) := if kvs.any (fun kv => decide (kv.1 = k)) then kvs.map fun kv => if kv.1 = k then (kv.1, v) else kv else kvs ++ [(k, v)]
def ownK (i : Nat) (env : Env) (k : List (Key × D) → T Fl) : T Fl := match env[i]? with
  | some (some (.dk xs)) => k xs
  | _ => .fail
def ownT (i : Nat) (env : Env) (k : List (List Key × D) → T Fl) : T Fl := match env[i]? with
  | some (some (.dt xs)) => k xs
  | _ => .fail
def dputK (i : Nat) (mi m : Env → T D) : Env → T Fl := fun env => ownK i env fun kvs => exS (fun env => (m env).bind fun d => (mi env).bind fun j => .ret (d, j)) (fun p env => match keyD p.2 with
  | some k => grd (kvs.length ≤ big) (.ret (.nx (env.set i (some (.dk (putD kvs k p.1))))))
  | none => .fail) env
def dputT (i : Nat) (mi m : Env → T D) : Env → T Fl := fun env => ownT i env fun kvs => exS (fun env => (m env).bind fun d => (mi env).bind fun j => .ret (d, j)) (fun p env => match p.2 with
  | .tup ks => (match keysD ks with
    | some k => grd (kvs.length ≤ big) (.ret (.nx (env.set i (some (.dt (putD kvs k p.1))))))
    | none => .fail)
  | _ => .fail) env
theorem ownK_at {n : Nat} {i : Nat} {env : Env} {k : List (Key × D) → T Fl} {Q : Fl → Nat → Prop} {E : D → Nat → Prop} (h : (ownK i env k).wp n Q E) : ∃ xs, env[i]? = some (some (.dk xs)) ∧ (k xs).wp n Q E := by
  unfold ownK at h
  cases e : env[i]? with
  | none => rw [e] at h; exact False.elim h
  | some o =>
    rw [e] at h
    cases o with
    | none => exact False.elim h
    | some o => cases o <;> first | exact ⟨_, rfl, h⟩ | exact False.elim h
theorem ownT_at {n : Nat} {i : Nat} {env : Env} {k : List (List Key × D) → T Fl} {Q : Fl → Nat → Prop} {E : D → Nat → Prop} (h : (ownT i env k).wp n Q E) : ∃ xs, env[i]? = some (some (.dt xs)) ∧ (k xs).wp n Q E := by
  unfold ownT at h
  cases e : env[i]? with
  | none => rw [e] at h; exact False.elim h
  | some o =>
    rw [e] at h
    cases o with
    | none => exact False.elim h
    | some o => cases o <;> first | exact ⟨_, rfl, h⟩ | exact False.elim h
theorem ownL_at {n : Nat} {i : Nat} {env : Env} {k : List D → T Fl} {Q : Fl → Nat → Prop} {E : D → Nat → Prop} (h : (ownL i env k).wp n Q E) : ∃ xs, env[i]? = some (some (.ls xs)) ∧ (k xs).wp n Q E := by
  unfold ownL at h
  cases e : env[i]? with
  | none => rw [e] at h; exact False.elim h
  | some o =>
    rw [e] at h
    cases o with
    | none => exact False.elim h
    | some o => cases o <;> first | exact ⟨_, rfl, h⟩ | exact False.elim h
theorem grd_wp {α : Type} {c : Prop} [Decidable c] {t : T α} {n : Nat} {Q : α → Nat → Prop} {E : D → Nat → Prop} (h : (grd c t).wp n Q E) : c ∧ t.wp n Q E := by
  unfold grd at h
  by_cases hc : c
  · rw [if_pos hc] at h; exact ⟨hc, h⟩
  · rw [if_neg hc] at h; exact False.elim h
section
variable {X : Cx} {G : GC} {W : WX} {i : Nat} {me mi : Env → T D} {o e ei : Expr} {ap cp pos : Pos}
theorem st_append (hk : X.K = G.K) (hv : PE X o (tVar i)) (he : PE X e (tQ G W false me))
    (hbase : attributeBase o "append" X.env (eval o X.env) = eval o X.env := by rfl)
    (hfew : ((backTo cp (starEach [e] X.env)).all (fun x => !x.1) && (backToKw cp (keywordEach [] X.env)).all (fun x => x.1.isSome) && decide (([e] : List Expr).length + ([] : List Keyword).length + (if ([] : List Keyword).isEmpty then 0 else 1) < 30)) = true := by rfl)
    (hline : (ap.endLine == cp.line) = true := by rfl) (hs : starEach [e] X.env = (false, eval e X.env) :: starEach [] X.env := by rfl) (hplain : (backTo cp (starEach [] X.env)).any (·.1) = false := by rfl)
    (hsw : swapsWith (.Call (.Attribute o "append" ap) [e] [] cp) none pos.line X.env = pure false := by rfl) :
    PS X (.Expr (.Call (.Attribute o "append" ap) [e] [] cp) pos) (tS G W (appS i me)) := by
  refine PS.imp (ps_expr (pe_bm PySem.F.plainAttrs_list PySem.F.slot_list_append PySem.F.type_list_append mt_append hv (pa_cons he pa_nil hs) hbase hfew hline hs hplain) hsw) fun E σ H h => ?_
  obtain ⟨C, n, env, us, h⟩ := h
  obtain ⟨xs, e1, w⟩ := ownL_at h.wp
  have h : AtS G W σ env us C n H (exS me (fun d env => grd (xs.length ≤ big) (.ret (.nx (env.set i (some (.ls (xs ++ [d]))))))) env) E := ⟨h.ok, w⟩
  obtain ⟨a, vs, f, hp, l, ma, np⟩ := h.ok.atLs e1
  refine ⟨.ref a, f, .inl ⟨rfl, vs, SqL.of hp⟩, C, n, env, us, (h.expr (R := rV G false)).imp ?_⟩
  rintro v H1 ⟨C1, n1, d, s1, r1, h1⟩
  obtain ⟨hl, h2⟩ := grd_wp h1.wp
  have hp1 : H1 a = some (.lst vs) := s1.kp a _ hp (fun _ z => by cases z) (by simp) np
  have l1 := l.nx s1.nx
  obtain ⟨k2, s2⟩ := h1.ok.setLs f e1 hp1 ma (l1.append (.cons r1.unview .nil))
  exact ⟨a, vs, v, rfl, rfl, hp1, by rw [l1.length]; exact Nat.lt_of_le_of_lt hl (by decide), h2 C1 _ us s2 (fun a m => .inl m) σ k2⟩
theorem st_extend (hk : X.K = G.K) (hv : PE X o (tVar i)) (he : PE X e (tQ G W false me))
    (hbase : attributeBase o "extend" X.env (eval o X.env) = eval o X.env := by rfl)
    (hfew : ((backTo cp (starEach [e] X.env)).all (fun x => !x.1) && (backToKw cp (keywordEach [] X.env)).all (fun x => x.1.isSome) && decide (([e] : List Expr).length + ([] : List Keyword).length + (if ([] : List Keyword).isEmpty then 0 else 1) < 30)) = true := by rfl)
    (hline : (ap.endLine == cp.line) = true := by rfl) (hs : starEach [e] X.env = (false, eval e X.env) :: starEach [] X.env := by rfl) (hplain : (backTo cp (starEach [] X.env)).any (·.1) = false := by rfl)
    (hsw : swapsWith (.Call (.Attribute o "extend" ap) [e] [] cp) none pos.line X.env = pure false := by rfl) :
    PS X (.Expr (.Call (.Attribute o "extend" ap) [e] [] cp) pos) (tS G W (extS i me)) := by
  refine PS.imp (ps_expr (pe_bm PySem.F.plainAttrs_list PySem.F.slot_list_extend PySem.F.type_list_extend (MtM.or2 mt_extend mt_extendT) hv (pa_cons he pa_nil hs) hbase hfew hline hs hplain) hsw) fun E σ H h => ?_
  obtain ⟨C, n, env, us, h⟩ := h
  obtain ⟨xs, e1, w⟩ := ownL_at h.wp
  obtain ⟨a, vs, f, hp, l, ma, np⟩ := h.ok.atLs e1
  refine ⟨.ref a, f, .inl ⟨rfl, vs, SqL.of hp⟩, C, n, env, us, (AtS.expr (R := rV G false) (σ := σ) (H := H) (C := C) (n := n) (us := us) (W := W) (E := E) ⟨h.ok, w⟩).imp ?_⟩
  rintro v H1 ⟨C1, n1, d, s1, r1, h1⟩
  have r1 := r1.unview
  cases r1 <;> try exact h1.no.elim
  case lst p ws ys fp hq lq =>
    obtain ⟨hl, h2⟩ := grd_wp h1.wp
    have hp1 : H1 a = some (.lst vs) := s1.kp a _ hp (fun _ z => by cases z) (by simp) np
    have l1 := l.nx s1.nx
    obtain ⟨k2, s2⟩ := h1.ok.setLs f e1 hp1 ma (l1.append lq)
    exact .inl ⟨a, p, vs, ws, rfl, rfl, hp1, hq, by rw [l1.length, lq.length]; exact Nat.le_trans hl (by decide), h2 C1 _ us s2 (fun a m => .inl m) σ k2⟩
  case tup p ws ys hq lq =>
    obtain ⟨hl, h2⟩ := grd_wp h1.wp
    have hp1 : H1 a = some (.lst vs) := s1.kp a _ hp (fun _ z => by cases z) (by simp) np
    have l1 := l.nx s1.nx
    obtain ⟨k2, s2⟩ := h1.ok.setLs f e1 hp1 ma (l1.append lq)
    exact .inr ⟨a, p, vs, ws, rfl, rfl, hp1, SqT.of hq, by rw [l1.length, lq.length]; exact Nat.le_trans hl (by decide), h2 C1 _ us s2 (fun a m => .inl m) σ k2⟩
/-- x[i] = e, x a list of one's own -/
theorem two_expr {C : Cf} {n : Nat} {H : Hp} {σ : St} {env : Env} {us : List Addr} {E : Ends} {m k : Env → T D} {g : D × D → Env → T Fl} (h : AtS G W σ env us C n H (exS (fun env => (m env).bind fun d => (k env).bind fun j => .ret (d, j)) g env) E) :
    At G W (rV G false) σ env us C n H (m env) (fun v H1 => ∃ C1 n1 d, Step [] C H C1 H1 ∧ Rep G C1 H1 v d ∧ At G W (rV G false) σ env us C1 n1 H1 (k env) (fun u H2 => ∃ C2 n2 j, Step [] C1 H1 C2 H2 ∧ Rep G C2 H2 v d ∧ Rep G C2 H2 u j ∧ AtS G W σ env us C2 n2 H2 (g (d, j) env) E)) := by
  refine ⟨h.ok, T.wp_mono (T.wp_bind (T.wp_bindX h.wp)) ?_ ?_⟩
  · intro d n1 _ z C1 H1 v s1 w1 r1
    have k1 := h.ok.q s1 w1
    refine ⟨C1, n1, d, s1, r1.unview, k1, T.wp_mono (T.wp_bind z) ?_ ?_⟩
    · intro j n2 _ z2 C2 H2 u s2 w2 r2
      exact ⟨C2, n2, j, s2, r1.unview.nx s2.nx, r2.unview, AtS.after h.ok (s1.trans s2 (by simp)) w2 z2⟩
    · intro e2 n2 _ z2 C2 H2 cls dx s2 w2 rx
      exact z2 C2 H2 us ((s1.trans s2 (by simp)).up (by simp)) (fun a m => .inl m) σ cls dx (k1.q s2 w2) rx
  · intro e1 n1 _ z C1 H1 cls dx s1 w1 rx
    exact z C1 H1 us (s1.up (by simp)) (fun a m => .inl m) σ cls dx (h.ok.q s1 w1) rx
theorem RepK.any {C : Cf} {H : Hp} (k : Key) : ∀ {vs : List (Key × V)} {ds : List (Key × D)}, RepK G C H vs ds → (vs.any fun kv => decide (kv.1 = k)) = ds.any fun kv => decide (kv.1 = k)
  | _, _, .nil => rfl
  | _, _, .cons _ l => by rw [List.any_cons, List.any_cons, RepK.any k l]
theorem RepT.any {C : Cf} {H : Hp} (k : List Key) : ∀ {vs : List (List Key × V)} {ds : List (List Key × D)}, RepT G C H vs ds → (vs.any fun kv => decide (kv.1 = k)) = ds.any fun kv => decide (kv.1 = k)
  | _, _, .nil => rfl
  | _, _, .cons _ l => by rw [List.any_cons, List.any_cons, RepT.any k l]
theorem RepK.len {C : Cf} {H : Hp} : ∀ {vs : List (Key × V)} {ds : List (Key × D)}, RepK G C H vs ds → vs.length = ds.length
  | _, _, .nil => rfl
  | _, _, .cons _ l => congrArg (· + 1) (RepK.len l)
theorem RepT.len {C : Cf} {H : Hp} : ∀ {vs : List (List Key × V)} {ds : List (List Key × D)}, RepT G C H vs ds → vs.length = ds.length
  | _, _, .nil => rfl
  | _, _, .cons _ l => congrArg (· + 1) (RepT.len l)
theorem RepK.snoc {C : Cf} {H : Hp} {k : Key} {v : V} {d : D} (r : Rep G C H v d) : ∀ {vs : List (Key × V)} {ds : List (Key × D)}, RepK G C H vs ds → RepK G C H (vs ++ [(k, v)]) (ds ++ [(k, d)])
  | _, _, .nil => .cons r .nil
  | _, _, .cons q l => .cons q (RepK.snoc r l)
theorem RepT.snoc {C : Cf} {H : Hp} {k : List Key} {v : V} {d : D} (r : Rep G C H v d) : ∀ {vs : List (List Key × V)} {ds : List (List Key × D)}, RepT G C H vs ds → RepT G C H (vs ++ [(k, v)]) (ds ++ [(k, d)])
  | _, _, .nil => .cons r .nil
  | _, _, .cons q l => .cons q (RepT.snoc r l)
theorem RepK.repl {C : Cf} {H : Hp} (k : Key) {v : V} {d : D} (r : Rep G C H v d) : ∀ {vs : List (Key × V)} {ds : List (Key × D)}, RepK G C H vs ds → RepK G C H (vs.map fun kv => if kv.1 = k then (kv.1, v) else kv) (ds.map fun kv => if kv.1 = k then (kv.1, d) else kv)
  | _, _, .nil => .nil
  | _, _, .cons (k := k') q l => by
    rw [List.map_cons, List.map_cons]
    by_cases e : k' = k
    · simp only [e, if_true]
      exact .cons r (RepK.repl k r l)
    · simp only [e, if_false]
      exact .cons q (RepK.repl k r l)
theorem RepT.repl {C : Cf} {H : Hp} (k : List Key) {v : V} {d : D} (r : Rep G C H v d) : ∀ {vs : List (List Key × V)} {ds : List (List Key × D)}, RepT G C H vs ds → RepT G C H (vs.map fun kv => if kv.1 = k then (kv.1, v) else kv) (ds.map fun kv => if kv.1 = k then (kv.1, d) else kv)
  | _, _, .nil => .nil
  | _, _, .cons (k := k') q l => by
    rw [List.map_cons, List.map_cons]
    by_cases e : k' = k
    · simp only [e, if_true]
      exact .cons r (RepT.repl k r l)
    · simp only [e, if_false]
      exact .cons q (RepT.repl k r l)
theorem RepK.put {C : Cf} {H : Hp} (k : Key) {v : V} {d : D} (r : Rep G C H v d) {vs : List (Key × V)} {ds : List (Key × D)} (l : RepK G C H vs ds) : RepK G C H (putK vs k v) (putD ds k d) := by
  unfold putK putD
  rw [l.any k]
  by_cases e : (ds.any fun kv => decide (kv.1 = k)) = true
  · rw [if_pos e, if_pos e]; exact l.repl k r
  · rw [if_neg e, if_neg e]; exact l.snoc r
theorem RepT.put {C : Cf} {H : Hp} (k : List Key) {v : V} {d : D} (r : Rep G C H v d) {vs : List (List Key × V)} {ds : List (List Key × D)} (l : RepT G C H vs ds) : RepT G C H (putK vs k v) (putD ds k d) := by
  unfold putK putD
  rw [l.any k]
  by_cases e : (ds.any fun kv => decide (kv.1 = k)) = true
  · rw [if_pos e, if_pos e]; exact l.repl k r
  · rw [if_neg e, if_neg e]; exact l.snoc r
theorem st_setix (hk : X.K = G.K) (hv : PE X o (tVar i)) (hi : PE X ei (tQ G W false mi)) (he : PE X e (tQ G W false me)) {sp : Pos}
    (hg : ∀ t, PSet X t → PG X (.Subscript o ei sp) (gSub (tVar i) (tQ G W false mi) t))
    (hs : swapsWithSole [.Subscript o ei sp] e pos.line X.env = pure false := by rfl) (hw : swappedStores [.Subscript o ei sp] e X.env = pure none := by rfl) (h1 : (assignEach [.Subscript o ei sp] X.env).map (·.2) = [assign (.Subscript o ei sp) X.env] := by rfl) :
    PS X (.Assign [.Subscript o ei sp] e pos) (tS G W (setS i mi me)) := by
  refine PS.imp (ps_asg he (hg _ set_list) hs hw h1) fun E σ H h => ?_
  obtain ⟨C, n, env, us, h⟩ := h
  obtain ⟨xs, e1, w⟩ := ownL_at h.wp
  obtain ⟨a, vs, f, hp, l, ma, np⟩ := h.ok.atLs e1
  refine ⟨C, n, env, us, (two_expr (E := E) ⟨h.ok, w⟩).imp ?_⟩
  rintro v H1 ⟨C1, n1, d, s1, r1, h1⟩
  refine ⟨.ref a, f, C1, n1, env, us, h1.imp ?_⟩
  rintro u H2 ⟨C2, n2, j, s2, r1', r2, h2⟩
  have hp2 : H2 a = some (.lst vs) := (s1.trans s2 (by simp)).kp a _ hp (fun _ z => by cases z) (by simp) np
  have l2 := (l.nx s1.nx).nx s2.nx
  cases r2 <;> try exact h2.no.elim
  case int k =>
    dsimp only at h2
    cases q : ixN xs.length k with
    | none => rw [q] at h2; exact h2.no.elim
    | some jj =>
      rw [q] at h2
      obtain ⟨k2, s3⟩ := h2.ok.setLs f e1 hp2 ma (l2.set r1' jj)
      exact ⟨a, vs, k, jj, rfl, rfl, hp2, by rw [l2.length]; exact q, h2.wp C2 _ us s3 (fun a m => .inl m) σ k2⟩
/-- d[k] = e, d a dict of one's own -/
theorem st_dputK (hu : X.A.units + 1 < cLine) (hv : PE X o (tVar i)) (hi : PE X ei (tQ G W false mi)) (he : PE X e (tQ G W false me)) {sp : Pos} (hs : swapsWith e (some (.Subscript o ei sp)) pos.line X.env = pure false := by rfl) :
    PS X (.Assign [.Subscript o ei sp] e pos) (tS G W (dputK i mi me)) := by
  refine PS.imp (ps_dput hu hv hi he hs) fun E σ H h => ?_
  obtain ⟨C, n, env, us, h⟩ := h
  obtain ⟨kvs, e1, w⟩ := ownK_at h.wp
  obtain ⟨a, vs, f, hp, l, ma, np⟩ := h.ok.atDk e1
  refine ⟨C, n, env, us, (two_expr (E := E) ⟨h.ok, w⟩).imp ?_⟩
  rintro v H1 ⟨C1, n1, d, s1, r1, h1⟩
  refine ⟨.ref a, f, C1, n1, env, us, h1.imp ?_⟩
  rintro u H2 ⟨C2, n2, j, s2, r1', r2, h2⟩
  have hp2 : H2 a = some (.dK vs) := (s1.trans s2 (by simp)).kp a _ hp (fun _ z => by cases z) (by simp) np
  have l2 := (l.nx s1.nx).nx s2.nx
  dsimp only at h2
  cases q : keyD j with
  | none => rw [q] at h2; exact h2.no.elim
  | some k =>
    rw [q] at h2
    obtain ⟨hl, h3⟩ := grd_wp h2.wp
    obtain ⟨k2, s3⟩ := h2.ok.setDk f e1 hp2 ma (l2.put k r1')
    refine ⟨a, _, rfl, ?_, h3 C2 _ us s3 (fun a m => .inl m) σ k2⟩
    rw [r2.key q]
    exact DPut.k hp2 (by rw [l2.len]; exact Nat.lt_of_le_of_lt hl (by decide))
theorem st_dputT (hu : X.A.units + 1 < cLine) (hv : PE X o (tVar i)) (hi : PE X ei (tQ G W false mi)) (he : PE X e (tQ G W false me)) {sp : Pos} (hs : swapsWith e (some (.Subscript o ei sp)) pos.line X.env = pure false := by rfl) :
    PS X (.Assign [.Subscript o ei sp] e pos) (tS G W (dputT i mi me)) := by
  refine PS.imp (ps_dput hu hv hi he hs) fun E σ H h => ?_
  obtain ⟨C, n, env, us, h⟩ := h
  obtain ⟨kvs, e1, w⟩ := ownT_at h.wp
  obtain ⟨a, vs, f, hp, l, ma, np⟩ := h.ok.atDt e1
  refine ⟨C, n, env, us, (two_expr (E := E) ⟨h.ok, w⟩).imp ?_⟩
  rintro v H1 ⟨C1, n1, d, s1, r1, h1⟩
  refine ⟨.ref a, f, C1, n1, env, us, h1.imp ?_⟩
  rintro u H2 ⟨C2, n2, j, s2, r1', r2, h2⟩
  have hp2 : H2 a = some (.dT vs) := (s1.trans s2 (by simp)).kp a _ hp (fun _ z => by cases z) (by simp) np
  have l2 := (l.nx s1.nx).nx s2.nx
  cases r2 <;> try exact h2.no.elim
  case tup pk vk dk hk lk =>
    dsimp only at h2
    cases q : keysD dk with
    | none => rw [q] at h2; exact h2.no.elim
    | some k =>
      rw [q] at h2
      obtain ⟨hl, h3⟩ := grd_wp h2.wp
      obtain ⟨k2, s3⟩ := h2.ok.setDt f e1 hp2 ma (l2.put k r1')
      exact ⟨a, _, rfl, DPut.t hp2 (by rw [hk, lk.keys q]) (by rw [l2.len]; exact Nat.lt_of_le_of_lt hl (by decide)), h3 C2 _ us s3 (fun a m => .inl m) σ k2⟩
end
/-! ### freezing -/
def frzE (i : Nat) (env : Env) : Env := match env[i]? with
  | some (some o) => env.set i (some (.fz o.toD))
  | _ => env
def Cf.addL (C : Cf) (l : List Addr) : Cf := ⟨fun a => a ∈ l ∨ C.F a, C.pen, C.me⟩
section
variable {G : GC} {C : Cf} {n : Nat} {H : Hp}
theorem Nx.addL (l : List Addr) : Nx C (C.addL l) H H := ⟨fun a o f h _ => ⟨.inr f, h⟩, fun _ _ h => h, fun _ _ _ h => h, fun _ _ h => h, fun _ h => h⟩
theorem OwnL.froz {l : List Addr} : ∀ {as : List Addr} {dss : List (List D)}, OwnL G C H as dss → (∀ a ∈ as, a ∈ l) → RepL G (C.addL l) H (as.map V.ref) (dss.map D.lst)
  | _, _, .nil, _ => .nil
  | _, _, .cons h r q, m => .cons (.lst (.inl (m _ (List.mem_cons_self ..))) h (r.nx (Nx.addL l))) (OwnL.froz q fun a z => m a (List.mem_cons_of_mem _ z))
theorem OwnR.froz {v : V} {o : O} {us1 l : List Addr} (r : OwnR G C H v o us1) (m : ∀ a ∈ us1, a ∈ l) : Rep G (C.addL l) H v o.toD := by
  have nx := Nx.addL (C := C) (H := H) l
  cases r with
  | fz h => exact h.nx nx
  | ls h q => exact .lst (.inl (m _ (List.mem_cons_self ..))) h (q.nx nx)
  | dk h q => exact .dK (.inl (m _ (List.mem_cons_self ..))) h (q.nx nx)
  | dt h q => exact .dT (.inl (m _ (List.mem_cons_self ..))) h (q.nx nx)
  | ll h q => exact .lst (.inl (m _ (List.mem_cons_self ..))) h (q.froz fun a z => m a (List.mem_cons_of_mem _ z))
  | ob h c q => exact .obj (.inl (m _ (List.mem_cons_self ..))) h c (q.nx nx)
  | me e h c q => exact .obj (.inl (m _ (List.mem_cons_self ..))) h c (q.nx nx)
  | @tl a b k vs ws ds xs h e q hb q2 =>
    have z := RepL.set (C := C.addL l) (Rep.lst (C := C.addL l) (.inl (m _ (List.mem_cons_self ..))) hb (q2.nx nx)) k (q.nx nx)
    rw [set_back e] at z
    exact .tup h z
/-- the slot's own things are given away -/
theorem EnvR.froz : ∀ {σ : St} {env : Env} {us : List Addr} {i : Nat} {o : O}, EnvR G C H σ env us → us.Nodup → env[i]? = some (some o) → ∃ v us1, σ[i]? = some (some v) ∧ OwnR G C H v o us1 ∧ (∀ a ∈ us1, a ∈ us) ∧ ∀ l : List Addr, (∀ a ∈ us1, a ∈ l) → ∃ us', EnvR G (C.addL l) H σ (env.set i (some (.fz o.toD))) us' ∧ us'.Sublist us ∧ ∀ a ∈ us', a ∉ us1
  | _, _, _, _, _, .nil, _, e => by simp at e
  | _, _, _, 0, _, .skip _, _, e => by simp at e
  | _, _, _, i + 1, o, .skip r, nd, e => by
    obtain ⟨v, us1, h1, h2, h3, h4⟩ := EnvR.froz (i := i) (o := o) r nd (by simpa using e)
    refine ⟨v, us1, by simpa using h1, h2, h3, fun l m => ?_⟩
    obtain ⟨us', q1, q2, q3⟩ := h4 l m
    exact ⟨us', .skip q1, q2, q3⟩
  | _, _, _, 0, o, .has (v := v) (us1 := u1) (us := us) q r, nd, e => by
    simp at e
    subst e
    rw [List.nodup_append] at nd
    refine ⟨v, u1, rfl, q, fun a z => List.mem_append_left _ z, fun l m => ⟨[] ++ us, .has (.fz (q.froz m)) (r.nx (Nx.addL l) rfl fun _ _ _ h => h), List.sublist_append_right u1 us, fun a z y => nd.2.2 a y a z rfl⟩⟩
  | _, _, _, i + 1, o, .has (v := v) (us1 := u1) (us := us) q r, nd, e => by
    rw [List.nodup_append] at nd
    obtain ⟨v', us1, h1, h2, h3, h4⟩ := EnvR.froz (i := i) (o := o) r nd.2.1 (by simpa using e)
    refine ⟨v', us1, by simpa using h1, h2, fun a z => List.mem_append_right _ (h3 a z), fun l m => ?_⟩
    obtain ⟨us', q1, q2, q3⟩ := h4 l m
    refine ⟨u1 ++ us', .has (q.nx (Nx.addL l) rfl fun _ _ _ h => h) q1, (List.Sublist.refl u1).append q2, fun a z y => ?_⟩
    rcases List.mem_append.mp z with z | z
    · exact nd.2.2 a z a (h3 a y) rfl
    · exact q3 a z y
theorem Ok.froz {σ : St} {env : Env} {us : List Addr} (k : Ok G C n σ env us H) (i : Nat) : ∃ C' us', Ok G C' n σ (frzE i env) us' H ∧ Step us C H C' H ∧ ∀ a ∈ us', a ∈ us := by
  unfold frzE
  cases e : env[i]? with
  | none => exact ⟨C, us, k, Step.refl _ _ _, fun _ h => h⟩
  | some oo =>
    cases oo with
    | none => exact ⟨C, us, k, Step.refl _ _ _, fun _ h => h⟩
    | some o =>
      obtain ⟨v, us1, h1, h2, h3, h4⟩ := k.env.froz k.nd e
      obtain ⟨us', q1, q2, q3⟩ := h4 us1 fun _ z => z
      refine ⟨C.addL us1, us', ⟨⟨k.wf.pen, fun a z => ?_, k.wf.tab⟩, q1, k.nd.sublist q2, fun a m => ?_⟩, ⟨fun _ _ h _ _ _ => h, fun _ u h => ⟨u, h⟩, Nx.addL us1, fun a z => ?_, fun a z => .inl z, rfl⟩, fun a m => q2.subset m⟩
      · rcases z with z | z
        · obtain ⟨_, p2, p3⟩ := k.us a (h3 a z)
          exact ⟨p3, p2⟩
        · exact k.wf.fz a z
      · obtain ⟨p1, p2, p3⟩ := k.us a (q2.subset m)
        refine ⟨fun z => ?_, p2, p3⟩
        rcases z with z | z
        · exact q3 a m z
        · exact p1 z
      · rcases z with z | z
        · exact .inr (.inl (h3 a z))
        · exact .inl z
end
section
variable {X : Cx} {G : GC} {W : WX} {m : Env → T Fl} {st : Stmt} {ss : List Stmt}
/-- ahead of a statement a name's own things may be frozen -/
theorem st_frz (i : Nat) (h : PS X st (tS G W m)) : PS X st (tS G W fun env => m (frzE i env)) := PS.imp h fun E σ H k => by
  obtain ⟨C, n, env, us, k⟩ := k
  obtain ⟨C', us', k1, s1, hu⟩ := k.ok.froz i
  exact ⟨C', n, _, us', AtS.afterS s1 (fun a m => .inl (hu a m)) k1 k.wp⟩
theorem ss_frz (i : Nat) (h : PSs X ss (tS G W m)) : PSs X ss (tS G W fun env => m (frzE i env)) := PSs.imp h fun E σ H k => by
  obtain ⟨C, n, env, us, k⟩ := k
  obtain ⟨C', us', k1, s1, hu⟩ := k.ok.froz i
  exact ⟨C', n, _, us', AtS.afterS s1 (fun a m => .inl (hu a m)) k1 k.wp⟩
end
end Pu
set_option Elab.async false
set_option linter.all false
set_option maxRecDepth 100000
set_option maxHeartbeats 4000000
namespace Pu
open PySem L2 Stp NdefX
open PyProof.Rows hiding St
/-! ### in, not in -/
def flatD : D → Bool
  | .non => true
  | .bl _ => true
  | .int _ => true
  | .str _ => true
  | _ => false
def eqF : D → D → Bool
  | .non, .non => true
  | .bl a, .bl b => a == b
  | .bl a, .int b => (if a then 1 else 0) == b
  | .int a, .bl b => a == (if b then 1 else 0)
  | .int a, .int b => a == b
  | .str a, .str b => a == b
  | _, _ => false
/-- x in y -/
def inB : D → D → Option Bool
  | x, .lst ys => match x.pd, D.pdL ys with
    | some a, some bs => if SeqAt.shaped a = true ∧ SeqAt.shaped (.list bs) = true then some (bs.any fun z => PyData.eqv z a) else none
    | _, _ => none
  | x, .tup ys => if flatD x = true ∧ ys.all flatD = true then some (ys.any fun y => eqF y x) else none
  | x, .wt ys => if flatD x = true ∧ ys.all flatD = true then some (ys.any fun y => eqF y x) else none
  | x, .dK kvs => (keyD x).map fun k => (valD kvs k).isSome
  | .tup ks, .dT kvs => (keysD ks).map fun k => (valD kvs k).isSome
  | .str i, .str j => some (!(Builtin.Str.occurrences j i 0 j.length 1).isEmpty)
  | _, _ => none
def inD (x y : D) : T D := match inB x y with
  | some b => .ret (.bl b)
  | none => .fail
def notInD (x y : D) : T D := match inB x y with
  | some b => .ret (.bl (!b))
  | none => .fail
section
variable {G : GC} {C : Cf} {H : Hp}
theorem Rep.flat {v : V} {d : D} (r : Rep G C H v d) (h : flatD d = true) : flatV v = true := by
  cases r <;> first | rfl | cases h
theorem Rep.eqF {v u : V} {d e : D} (r : Rep G C H v d) (q : Rep G C H u e) (h : flatD d = true) (h2 : flatD e = true) : eqV v u = eqF d e := by
  cases r <;> cases q <;> first | rfl | (cases h) | (cases h2)
theorem RepL.flat : ∀ {vs : List V} {ds : List D}, RepL G C H vs ds → ds.all flatD = true → vs.all flatV = true
  | _, _, .nil, _ => rfl
  | _, _, .cons r l, h => by
    rw [List.all_cons, Bool.and_eq_true] at h ⊢
    exact ⟨r.flat h.1, RepL.flat l h.2⟩
theorem RepL.inV {u : V} {e : D} (q : Rep G C H u e) (h2 : flatD e = true) : ∀ {vs : List V} {ds : List D}, RepL G C H vs ds → ds.all flatD = true → L2.inV u vs = ds.any fun y => eqF y e
  | _, _, .nil, _ => rfl
  | _, _, .cons r l, h => by
    rw [List.all_cons, Bool.and_eq_true] at h
    have ih := RepL.inV q h2 l h.2
    unfold L2.inV at ih ⊢
    rw [List.any_cons, List.any_cons, ih, r.eqF q h.1 h2]
end
def rInDict (neg : Bool) : R2 := fun x y H Q => ∃ a o, y = .ref a ∧ DGet H a x o ∧ Q (.bl (if neg then !o.isSome else o.isSome)) H
theorem op_inDict {X : Cx} (hu : X.A.units + 1 < cLine) : OpR X (compareOp .In) (rInDict false) := by
  intro pins s σ H x y v u Q I rx ry h
  obtain ⟨a, o, rfl, g, q⟩ := h
  cases ry
  exact d_in hu I g rx fun s' I' => ⟨.bl _, H, I', rfl, q⟩
theorem op_notInDict {X : Cx} (hu : X.A.units + 1 < cLine) : OpR X (compareOp .NotIn) (rInDict true) := by
  intro pins s σ H x y v u Q I rx ry h
  obtain ⟨a, o, rfl, g, q⟩ := h
  cases ry
  exact d_notIn hu I g rx fun s' I' => ⟨.bl _, H, I', rfl, q⟩
theorem in_get {G : GC} {W : WX} {b : Bool} {σ : St} {env : Env} {us : List Addr} {C : Cf} {n : Nat} {H : Hp} {Q : VK} {x y : D} {f : Bool → Bool} (h : At G W (rV G b) σ env us C n H (match inB x y with | some k => .ret (.bl (f k)) | none => .fail) Q) : ∃ k, inB x y = some k ∧ Q (.bl (f k)) H := by
  cases q : inB x y with
  | none => rw [q] at h; exact h.no.elim
  | some k => rw [q] at h; exact ⟨k, rfl, h.ret (.bl _)⟩
def rInAll (K : PySem.W.Frag) (neg : Bool) : R2 := fun x y H Q => (∃ d ds, Dp K H x d ∧ Dp K H y (.list ds) ∧ SeqAt.shaped d = true ∧ SeqAt.shaped (.list ds) = true ∧ Q (.bl (if neg then !ds.any fun z => PyData.eqv z d else ds.any fun z => PyData.eqv z d)) H) ∨ rIn K neg x y H Q ∨ rInDict neg x y H Q ∨
  ∃ i j, x = .str i ∧ y = .str j ∧ Q (.bl (if neg then !(!(Builtin.Str.occurrences j i 0 j.length 1).isEmpty) else !(Builtin.Str.occurrences j i 0 j.length 1).isEmpty)) H
theorem op_inAll {X : Cx} (hu : X.A.units + 65 < cLine) : OpR X (compareOp .In) (rInAll X.K false) := OpR.or (op_inD hu) (OpR.or op_in_seq (OpR.or (op_inDict (by omega)) op_in_str))
theorem op_notInAll {X : Cx} (hu : X.A.units + 65 < cLine) : OpR X (compareOp .NotIn) (rInAll X.K true) := OpR.or (op_notInD hu) (OpR.or op_notIn_seq (OpR.or (op_notInDict (by omega)) op_notin_str))
theorem Nx.toView (C : Cf) (b : Bool) (H : Hp) : Nx (C.vw b) (C.vw true) H H := by
  refine ⟨fun a o f h _ => ⟨?_, h⟩, fun _ _ h => h, fun _ _ _ h => h, fun _ _ h => h, fun _ h => h⟩
  rcases f with f | f
  · exact .inl f
  · exact .inr ⟨rfl, f.2⟩
theorem in_all {G : GC} {b1 b2 : Bool} {C : Cf} {H : Hp} {Q : VK} {v u : V} {x y : D} {neg : Bool} {k : Bool} (r1 : Rep G (C.vw b1) H v x) (r2 : Rep G (C.vw b2) H u y) (e : inB x y = some k) (q : Q (.bl (if neg then !k else k)) H) : rInAll G.K neg v u H Q := by
  have r1 : Rep G (C.vw true) H v x := r1.nx (Nx.toView C b1 H)
  have r2 : Rep G (C.vw true) H u y := r2.nx (Nx.toView C b2 H)
  cases r2 with
  | @lst p vs ds f hp l =>
    have e : (match x.pd, D.pdL ds with | some a, some bs => if SeqAt.shaped a = true ∧ SeqAt.shaped (.list bs) = true then some (bs.any fun z => PyData.eqv z a) else none | _, _ => none) = some k := by cases x <;> exact e
    cases q1 : x.pd with
    | none => rw [q1] at e; cases e
    | some a =>
      cases q2 : D.pdL ds with
      | none => rw [q1, q2] at e; cases e
      | some bs =>
        rw [q1, q2] at e
        dsimp only at e
        by_cases hs : SeqAt.shaped a = true ∧ SeqAt.shaped (.list bs) = true
        · rw [if_pos hs] at e
          cases e
          exact .inl ⟨a, bs, r1.dp q1, .lst (SqL.of hp) (l.dp q2), hs.1, hs.2, q⟩
        · rw [if_neg hs] at e; cases e
  | @tup p vs ds hp l =>
    have e : (if flatD x = true ∧ ds.all flatD = true then some (ds.any fun y => eqF y x) else none) = some k := by cases x <;> exact e
    by_cases hs : flatD x = true ∧ ds.all flatD = true
    · rw [if_pos hs] at e
      cases e
      refine .inr (.inl ⟨p, vs, rfl, .inr (SqT.of hp), r1.flat hs.1, l.flat hs.2, ?_⟩)
      rw [l.inV r1 hs.1 hs.2]
      exact q
    · rw [if_neg hs] at e; cases e
  | @wt p vs ds hp l =>
    have e : (if flatD x = true ∧ ds.all flatD = true then some (ds.any fun y => eqF y x) else none) = some k := by cases x <;> exact e
    by_cases hs : flatD x = true ∧ ds.all flatD = true
    · rw [if_pos hs] at e
      cases e
      refine .inr (.inl ⟨p, vs, rfl, .inr (sqT_wt hp), r1.flat hs.1, l.flat hs.2, ?_⟩)
      rw [l.inV r1 hs.1 hs.2]
      exact q
    · rw [if_neg hs] at e; cases e
  | @dK p vs ds f hp l =>
    have e : (keyD x).map (fun k => (valD ds k).isSome) = some k := by cases x <;> exact e
    cases q1 : keyD x with
    | none => rw [q1] at e; cases e
    | some kk =>
      rw [q1] at e
      cases e
      refine .inr (.inr (.inl ⟨p, valV vs kk, rfl, by rw [r1.key q1]; exact DGet.k hp, ?_⟩))
      have z : (valV vs kk).isSome = (valD ds kk).isSome := by
        cases q2 : valD ds kk with
        | none => rw [(l.val kk).1 q2]; rfl
        | some d =>
          obtain ⟨v, e2, _⟩ := (l.val kk).2 d q2
          rw [e2]; rfl
      rw [z]
      exact q
  | @dT p vs ds f hp l =>
    cases r1 <;> try (cases e)
    case tup p2 vs2 ds2 h2 l2 =>
      have e : (keysD ds2).map (fun k => (valD ds k).isSome) = some k := e
      cases q1 : keysD ds2 with
      | none => rw [q1] at e; cases e
      | some kk =>
        rw [q1] at e
        cases e
        refine .inr (.inr (.inl ⟨p, valV vs kk, rfl, DGet.t hp (by rw [h2, l2.keys q1]), ?_⟩))
        have z : (valV vs kk).isSome = (valD ds kk).isSome := by
          cases q2 : valD ds kk with
          | none => rw [(l.val kk).1 q2]; rfl
          | some d =>
            obtain ⟨v, e2, _⟩ := (l.val kk).2 d q2
            rw [e2]; rfl
        rw [z]
        exact q
  | str j =>
    cases r1 <;> try (cases e)
    exact .inr (.inr (.inr ⟨_, _, rfl, rfl, q⟩))
  | _ => cases x <;> cases e
section
variable {X : Cx} {G : GC} {W : WX} {b b1 b2 : Bool} {ma mb : Env → T D} {a c : Expr} {pos : Pos}
theorem s_in (hk : X.K = G.K) (hu : X.A.units + 65 < cLine) (ha : PE X a (tQ G W b1 ma)) (hb : PE X c (tQ G W b2 mb)) (hm : behindInMarks .In c = false := by rfl) : PE X (.Compare a [.In] [c] pos) (tQ G W false (q2 inD ma mb)) := by
  have ho := op_inAll hu
  rw [hk] at ho
  exact s_cmp ho (fun σ env us C n H x y d e Q r1 r2 h => by
    obtain ⟨k, ek, q⟩ := in_get (f := id) h
    exact in_all r1 r2 ek q) ha hb hm
theorem s_notIn (hk : X.K = G.K) (hu : X.A.units + 65 < cLine) (ha : PE X a (tQ G W b1 ma)) (hb : PE X c (tQ G W b2 mb)) (hm : behindInMarks .NotIn c = false := by rfl) : PE X (.Compare a [.NotIn] [c] pos) (tQ G W false (q2 notInD ma mb)) := by
  have ho := op_notInAll hu
  rw [hk] at ho
  exact s_cmp ho (fun σ env us C n H x y d e Q r1 r2 h => by
    obtain ⟨k, ek, q⟩ := in_get (f := fun k => !k) h
    exact in_all r1 r2 ek q) ha hb hm
theorem t_in (hk : X.K = G.K) (hu : X.A.units + 65 < cLine) (ha : PE X a (tQ G W b1 ma)) (hb : PE X c (tQ G W b2 mb)) (hm : behindInMarks .In c = false := by rfl) : PT X (.Compare a [.In] [c] pos) (tT G W (tb1 (q2 inD ma mb) truB)) := by
  have ho := op_inAll hu
  rw [hk] at ho
  exact t_cmp ho (fun σ env us C n H x y d e Q r1 r2 h => by
    obtain ⟨k, ek, q⟩ := in_get (f := id) h
    exact in_all r1 r2 ek q) ha hb hm
theorem t_notIn (hk : X.K = G.K) (hu : X.A.units + 65 < cLine) (ha : PE X a (tQ G W b1 ma)) (hb : PE X c (tQ G W b2 mb)) (hm : behindInMarks .NotIn c = false := by rfl) : PT X (.Compare a [.NotIn] [c] pos) (tT G W (tb1 (q2 notInD ma mb) truB)) := by
  have ho := op_notInAll hu
  rw [hk] at ho
  exact t_cmp ho (fun σ env us C n H x y d e Q r1 r2 h => by
    obtain ⟨k, ek, q⟩ := in_get (f := fun k => !k) h
    exact in_all r1 r2 ek q) ha hb hm
/-! ### built-in functions -/
theorem s_callB {id : String} {x : Str} {p : Pos} {e : Expr} {es : List Expr} {r : List V → Hp → VK → Prop} {f : List D → T D} {ml : Env → T (List D)} (hc : CallR X (.builtin id) r)
    (hf : ∀ σ env us C n H vs ds Q, RepL G (C.vw b1) H vs ds → At G W (rV G b) σ env us C n H (f ds) Q → r vs H Q)
    (hg : Gl X x) (hm : X.mg x = none) (hv : bootBuiltins x = some (.builtin id)) (ha : PA X (e :: es) (tA G W b1 ml)) (hn : x ≠ "__name__" := by decide) (hdb : (x == ("__debug__" : Str)) = false := by decide)
    (he : starEach (e :: es) X.env = (false, eval e X.env) :: starEach es X.env := by rfl) (hpl : (backTo pos (starEach es X.env)).any (·.1) = false := by rfl) : PE X (.Call (.Name x p) (e :: es) [] pos) (tQ G W b (qN f ml)) := by
  refine PE.imp (pe_callB hc hg hm hv ha hn hdb he hpl) fun σ H Q h => ?_
  obtain ⟨C, n, env, us, h⟩ := h
  refine ⟨C, n, env, us, (h.bind (R := rA G b1)).imp ?_⟩
  rintro vs H1 ⟨C1, n1, ds, s1, r1, h1⟩
  exact hf σ env us C1 n1 H1 vs ds Q r1 h1
theorem s_callTy {T' : String} {x : Str} {p : Pos} {e : Expr} {es : List Expr} {r : List V → Hp → VK → Prop} {f : List D → T D} {ml : Env → T (List D)} (hc : CallR X (.type T') r)
    (hf : ∀ σ env us C n H vs ds Q, RepL G (C.vw b1) H vs ds → At G W (rV G b) σ env us C n H (f ds) Q → r vs H Q)
    (hg : Gl X x) (hm : X.mg x = none) (hv : bootBuiltins x = some (.type T')) (ha : PA X (e :: es) (tA G W b1 ml)) (hn : x ≠ "__name__" := by decide) (hdb : (x == ("__debug__" : Str)) = false := by decide)
    (he : starEach (e :: es) X.env = (false, eval e X.env) :: starEach es X.env := by rfl) (hpl : (backTo pos (starEach es X.env)).any (·.1) = false := by rfl) : PE X (.Call (.Name x p) (e :: es) [] pos) (tQ G W b (qN f ml)) := by
  refine PE.imp (pe_callTy hc hg hm hv ha hn hdb he hpl) fun σ H Q h => ?_
  obtain ⟨C, n, env, us, h⟩ := h
  refine ⟨C, n, env, us, (h.bind (R := rA G b1)).imp ?_⟩
  rintro vs H1 ⟨C1, n1, ds, s1, r1, h1⟩
  exact hf σ env us C1 n1 H1 vs ds Q r1 h1
end
def lenF : List D → T D
  | [.lst xs] => .ret (.int xs.length)
  | [.tup xs] => .ret (.int xs.length)
  | [.wt xs] => .ret (.int xs.length)
  | [.dK xs] => .ret (.int xs.length)
  | [.dT xs] => .ret (.int xs.length)
  | [.str z] => grd (z.length ≤ big) (.ret (.int z.length))
  | _ => .fail
def listF : List D → T D
  | [.lst xs] => .ret (.lst xs)
  | [.tup xs] => .ret (.lst xs)
  | [.wt xs] => .ret (.lst xs)
  | _ => .fail
def tupleF : List D → T D
  | [.lst xs] => .ret (.tup xs)
  | [.tup xs] => .ret (.tup xs)
  | _ => .fail
def intF : List D → T D
  | [.int i] => .ret (.int i)
  | [.bl k] => .ret (.int (if k then 1 else 0))
  | _ => .fail
def absF : List D → T D
  | [.int i] => .ret (.int (if i < 0 then -i else i))
  | _ => .fail
def max2F : List D → T D
  | [.int i, .int j] => .ret (.int (if j > i then j else i))
  | _ => .fail
def min2F : List D → T D
  | [.int i, .int j] => .ret (.int (if j < i then j else i))
  | _ => .fail
def intsD : List D → Option (List Int)
  | [] => some []
  | .int i :: ds => (intsD ds).map (i :: ·)
  | _ :: _ => none
def blsD : List D → Option (List Bool)
  | [] => some []
  | .bl i :: ds => (blsD ds).map (i :: ·)
  | _ :: _ => none
def allF : List D → T D
  | [.lst xs] => (match blsD xs with
    | some bs => .ret (.bl (bs.all id))
    | none => .fail)
  | _ => .fail
def anyF : List D → T D
  | [.lst xs] => (match blsD xs with
    | some bs => .ret (.bl (bs.any id))
    | none => .fail)
  | _ => .fail
def sumF : List D → T D
  | [.lst xs] => (match intsD xs with
    | some bs => .ret (.int bs.sum)
    | none => .fail)
  | _ => .fail
def maxI (a : Int) : List Int → Int
  | [] => a
  | b :: l => maxI (if b > a then b else a) l
def minI (a : Int) : List Int → Int
  | [] => a
  | b :: l => minI (if b < a then b else a) l
def max1F : List D → T D
  | [.lst xs] => (match intsD xs with
    | some bs => (match bs with
      | a :: l => .ret (.int (maxI a l))
      | [] => .fail)
    | none => .fail)
  | _ => .fail
def min1F : List D → T D
  | [.lst xs] => (match intsD xs with
    | some bs => (match bs with
      | a :: l => .ret (.int (minI a l))
      | [] => .fail)
    | none => .fail)
  | _ => .fail
section
variable {G : GC} {C : Cf} {H : Hp}
theorem RepL.ints : ∀ {vs : List V} {ds : List D} {ns : List Int}, RepL G C H vs ds → intsD ds = some ns → vs = ns.map V.int
  | _, _, _, .nil, e => by cases e; rfl
  | _, _, ns, .cons (d := d) (ds := ds) r l, e => by
    cases r <;> try (cases e)
    rename_i i
    have e : (intsD ds).map (i :: ·) = some ns := e
    cases q : intsD ds with
    | none => rw [q] at e; cases e
    | some ms => rw [q] at e; cases e; rw [RepL.ints l q]; rfl
theorem RepL.bls : ∀ {vs : List V} {ds : List D} {ns : List Bool}, RepL G C H vs ds → blsD ds = some ns → vs = ns.map V.bl
  | _, _, _, .nil, e => by cases e; rfl
  | _, _, ns, .cons (d := d) (ds := ds) r l, e => by
    cases r <;> try (cases e)
    rename_i i
    have e : (blsD ds).map (i :: ·) = some ns := e
    cases q : blsD ds with
    | none => rw [q] at e; cases e
    | some ms => rw [q] at e; cases e; rw [RepL.bls l q]; rfl
end
theorem maxI_spec : ∀ (l : List Int) (a : Int), (maxI a l ∈ a :: l) ∧ ∀ y ∈ a :: l, y ≤ maxI a l
  | [], a => ⟨List.mem_singleton.mpr rfl, fun y h => by rw [List.mem_singleton.mp h]; exact Int.le_refl _⟩
  | b :: l, a => by
    have ih := maxI_spec l (if b > a then b else a)
    show maxI (if b > a then b else a) l ∈ _ ∧ ∀ y ∈ _, y ≤ maxI (if b > a then b else a) l
    by_cases h : b > a
    · rw [if_pos h] at ih ⊢
      refine ⟨List.mem_cons_of_mem _ ih.1, fun y hy => ?_⟩
      rcases List.mem_cons.mp hy with e | hy
      · have := ih.2 b (List.mem_cons_self ..)
        omega
      · exact ih.2 y hy
    · rw [if_neg h] at ih ⊢
      refine ⟨?_, fun y hy => ?_⟩
      · rcases List.mem_cons.mp ih.1 with e | e
        · rw [e]; exact List.mem_cons_self ..
        · exact List.mem_cons_of_mem _ (List.mem_cons_of_mem _ e)
      · rcases List.mem_cons.mp hy with e | hy
        · rw [e]; exact ih.2 a (List.mem_cons_self ..)
        · rcases List.mem_cons.mp hy with e | hy
          · have := ih.2 a (List.mem_cons_self ..)
            omega
          · exact ih.2 y (List.mem_cons_of_mem _ hy)
theorem minI_spec : ∀ (l : List Int) (a : Int), (minI a l ∈ a :: l) ∧ ∀ y ∈ a :: l, minI a l ≤ y
  | [], a => ⟨List.mem_singleton.mpr rfl, fun y h => by rw [List.mem_singleton.mp h]; exact Int.le_refl _⟩
  | b :: l, a => by
    have ih := minI_spec l (if b < a then b else a)
    show minI (if b < a then b else a) l ∈ _ ∧ ∀ y ∈ _, minI (if b < a then b else a) l ≤ y
    by_cases h : b < a
    · rw [if_pos h] at ih ⊢
      refine ⟨List.mem_cons_of_mem _ ih.1, fun y hy => ?_⟩
      rcases List.mem_cons.mp hy with e | hy
      · have := ih.2 b (List.mem_cons_self ..)
        omega
      · exact ih.2 y hy
    · rw [if_neg h] at ih ⊢
      refine ⟨?_, fun y hy => ?_⟩
      · rcases List.mem_cons.mp ih.1 with e | e
        · rw [e]; exact List.mem_cons_self ..
        · exact List.mem_cons_of_mem _ (List.mem_cons_of_mem _ e)
      · rcases List.mem_cons.mp hy with e | hy
        · rw [e]; exact ih.2 a (List.mem_cons_self ..)
        · rcases List.mem_cons.mp hy with e | hy
          · have := ih.2 a (List.mem_cons_self ..)
            omega
          · exact ih.2 y (List.mem_cons_of_mem _ hy)
section
variable {X : Cx} {G : GC} {W : WX} {b1 : Bool} {x : Str} {e e2 : Expr} {p pos : Pos} {m m2 : Env → T D}
theorem vals_inv1 {C : Cf} {H : Hp} {vs : List V} {d : D} (r : RepL G C H vs [d]) : ∃ v, vs = [v] ∧ Rep G C H v d := by
  cases r with
  | cons h l => cases l; exact ⟨_, rfl, h⟩
theorem s_len (hk : X.K = G.K) (hg : Gl X "len") (hm : X.mg "len" = none) (ha : PE X e (tQ G W b1 m)) (hs : starEach [e] X.env = (false, eval e X.env) :: starEach [] X.env := by rfl) (hpl : (backTo pos (starEach [] X.env)).any (·.1) = false := by rfl) :
    PE X (.Call (.Name "len" p) [e] [] pos) (tQ G W false (qN lenF (aCons m aNil))) := by
  have hc := (call_len (X := X)).or (call_lenD.or call_len_dT)
  rw [hk] at hc
  refine s_callB hc (fun σ env us C n H vs ds Q r h => ?_) hg hm PySem.boot_len (a_cons ha a_nil hs) (by decide) (by decide) hs hpl
  cases r with
  | nil => exact h.no.elim
  | cons r1 l =>
    cases l with
    | cons _ _ => cases r1 <;> exact h.no.elim
    | nil =>
      cases r1 <;> try exact h.no.elim
      case lst p vs ds f hp l => exact .inl ⟨_, _, rfl, .inl ⟨vs, SqL.of hp, rfl⟩, by rw [l.length]; exact h.ret (.int _)⟩
      case tup p vs ds hp l => exact .inl ⟨_, _, rfl, .inr ⟨vs, SqT.of hp, rfl⟩, by rw [l.length]; exact h.ret (.int _)⟩
      case wt p vs ds hp l => exact .inl ⟨_, _, rfl, .inr ⟨vs, sqT_wt hp, rfl⟩, by rw [l.length]; exact h.ret (.int _)⟩
      case dK p vs ds f hp l => exact .inr (.inl ⟨p, vs, rfl, hp, by rw [l.len]; exact h.ret (.int _)⟩)
      case dT p vs ds f hp l => exact .inr (.inr ⟨p, vs, rfl, hp, by rw [l.len]; exact h.ret (.int _)⟩)
      case str z =>
        obtain ⟨hl, h⟩ := h.grd
        exact .inl ⟨_, _, rfl, ⟨Nat.le_trans hl (by decide), rfl⟩, h.ret (.int _)⟩
theorem s_list (hk : X.K = G.K) (hg : Gl X "list") (hm : X.mg "list" = none) (ha : PE X e (tQ G W false m)) (hs : starEach [e] X.env = (false, eval e X.env) :: starEach [] X.env := by rfl) (hpl : (backTo pos (starEach [] X.env)).any (·.1) = false := by rfl) :
    PE X (.Call (.Name "list" p) [e] [] pos) (tQ G W false (qN listF (aCons m aNil))) := by
  have hc := call_list_of (X := X)
  rw [hk] at hc
  refine s_callTy hc (fun σ env us C n H vs ds Q r h => ?_) hg hm (by decide +kernel) (a_cons ha a_nil hs) (by decide) (by decide) hs hpl
  cases r with
  | nil => exact h.no.elim
  | cons r1 l =>
    cases l with
    | cons _ _ => cases r1 <;> exact h.no.elim
    | nil =>
      have r1 := r1.unview
      cases r1 <;> try exact h.no.elim
      case lst p vs ds f hp l => exact ⟨p, vs, rfl, .inl (SqL.of hp), fun q hq => h.newL l hq⟩
      case tup p vs ds hp l => exact ⟨p, vs, rfl, .inr (SqT.of hp), fun q hq => h.newL l hq⟩
      case wt p vs ds hp l => exact ⟨p, vs, rfl, .inr (sqT_wt hp), fun q hq => h.newL l hq⟩
theorem s_tuple (hk : X.K = G.K) (hg : Gl X "tuple") (hm : X.mg "tuple" = none) (ha : PE X e (tQ G W false m)) (hs : starEach [e] X.env = (false, eval e X.env) :: starEach [] X.env := by rfl) (hpl : (backTo pos (starEach [] X.env)).any (·.1) = false := by rfl) :
    PE X (.Call (.Name "tuple" p) [e] [] pos) (tQ G W false (qN tupleF (aCons m aNil))) := by
  have hc := call_tuple_of (X := X)
  rw [hk] at hc
  refine s_callTy hc (fun σ env us C n H vs ds Q r h => ?_) hg hm (by decide +kernel) (a_cons ha a_nil hs) (by decide) (by decide) hs hpl
  cases r with
  | nil => exact h.no.elim
  | cons r1 l =>
    cases l with
    | cons _ _ => cases r1 <;> exact h.no.elim
    | nil =>
      have r1 := r1.unview
      cases r1 <;> try exact h.no.elim
      case lst p vs ds f hp l => exact ⟨p, vs, rfl, .inl ⟨SqL.of hp, fun q hq => h.newT (l.nx (Nx.view _ false _)) id hq⟩⟩
      case tup p vs ds hp l => exact ⟨p, vs, rfl, .inr ⟨SqT.of hp, h.ret (.tup hp (l.nx (Nx.view _ false _)))⟩⟩
theorem s_intF (hg : Gl X "int") (hm : X.mg "int" = none) (ha : PE X e (tQ G W false m)) (hs : starEach [e] X.env = (false, eval e X.env) :: starEach [] X.env := by rfl) (hpl : (backTo pos (starEach [] X.env)).any (·.1) = false := by rfl) :
    PE X (.Call (.Name "int" p) [e] [] pos) (tQ G W false (qN intF (aCons m aNil))) := by
  refine s_callTy call_int1 (fun σ env us C n H vs ds Q r h => ?_) hg hm (by decide +kernel) (a_cons ha a_nil hs) (by decide) (by decide) hs hpl
  cases r with
  | nil => exact h.no.elim
  | cons r1 l =>
    cases l with
    | cons _ _ => cases r1 <;> exact h.no.elim
    | nil =>
      cases r1 <;> try exact h.no.elim
      case int i => exact .inl ⟨i, rfl, h.ret (.int _)⟩
      case bl i => exact .inr ⟨i, rfl, h.ret (.int _)⟩
theorem s_abs (hg : Gl X "abs") (hm : X.mg "abs" = none) (ha : PE X e (tQ G W false m)) (hs : starEach [e] X.env = (false, eval e X.env) :: starEach [] X.env := by rfl) (hpl : (backTo pos (starEach [] X.env)).any (·.1) = false := by rfl) :
    PE X (.Call (.Name "abs" p) [e] [] pos) (tQ G W false (qN absF (aCons m aNil))) := by
  refine s_callB call_abs (fun σ env us C n H vs ds Q r h => ?_) hg hm (by decide +kernel) (a_cons ha a_nil hs) (by decide) (by decide) hs hpl
  cases r with
  | nil => exact h.no.elim
  | cons r1 l =>
    cases l with
    | cons _ _ => cases r1 <;> exact h.no.elim
    | nil =>
      cases r1 <;> try exact h.no.elim
      case int i => exact ⟨i, rfl, h.ret (.int _)⟩
theorem s_max2 (hc : X.calm = true) (hg : Gl X "max") (hm : X.mg "max" = none) (ha : PE X e (tQ G W false m)) (hb : PE X e2 (tQ G W false m2)) (hs : starEach [e, e2] X.env = (false, eval e X.env) :: starEach [e2] X.env := by rfl) (hs2 : starEach [e2] X.env = (false, eval e2 X.env) :: starEach [] X.env := by rfl) (hpl : (backTo pos (starEach [e2] X.env)).any (·.1) = false := by rfl) :
    PE X (.Call (.Name "max" p) [e, e2] [] pos) (tQ G W false (qN max2F (aCons m (aCons m2 aNil)))) := by
  refine s_callB (call_max2 hc) (fun σ env us C n H vs ds Q r h => ?_) hg hm (by decide +kernel) (a_cons ha (a_cons hb a_nil hs2) hs) (by decide) (by decide) hs hpl
  cases r with
  | nil => exact h.no.elim
  | cons r1 l =>
    cases l with
    | nil => cases r1 <;> exact h.no.elim
    | cons r2 l =>
      cases r1 <;> try exact h.no.elim
      cases r2 <;> try exact h.no.elim
      cases l with
      | cons _ _ => exact h.no.elim
      | nil => exact ⟨_, _, rfl, h.ret (.int _)⟩
theorem s_min2 (hc : X.calm = true) (hg : Gl X "min") (hm : X.mg "min" = none) (ha : PE X e (tQ G W false m)) (hb : PE X e2 (tQ G W false m2)) (hs : starEach [e, e2] X.env = (false, eval e X.env) :: starEach [e2] X.env := by rfl) (hs2 : starEach [e2] X.env = (false, eval e2 X.env) :: starEach [] X.env := by rfl) (hpl : (backTo pos (starEach [e2] X.env)).any (·.1) = false := by rfl) :
    PE X (.Call (.Name "min" p) [e, e2] [] pos) (tQ G W false (qN min2F (aCons m (aCons m2 aNil)))) := by
  refine s_callB (call_min2 hc) (fun σ env us C n H vs ds Q r h => ?_) hg hm (by decide +kernel) (a_cons ha (a_cons hb a_nil hs2) hs) (by decide) (by decide) hs hpl
  cases r with
  | nil => exact h.no.elim
  | cons r1 l =>
    cases l with
    | nil => cases r1 <;> exact h.no.elim
    | cons r2 l =>
      cases r1 <;> try exact h.no.elim
      cases r2 <;> try exact h.no.elim
      cases l with
      | cons _ _ => exact h.no.elim
      | nil => exact ⟨_, _, rfl, h.ret (.int _)⟩
/-- a list of truth values, of ints -/
theorem bl_read {g : List Bool → Bool} {σ : St} {env : Env} {us : List Addr} {C : Cf} {n : Nat} {H : Hp} {vs : List V} {ds : List D} {Q : VK} {f : List D → T D} (hf : ∀ xs, f [.lst xs] = (match blsD xs with | some bs => .ret (.bl (g bs)) | none => .fail)) (hf2 : ∀ ds, (∀ xs, ds ≠ [.lst xs]) → f ds = .fail)
    (r : RepL G (C.vw b1) H vs ds) (h : At G W (rV G false) σ env us C n H (f ds) Q) : ∃ (a : Addr) (bs : List Bool), vs = [V.ref a] ∧ SqL G.K H a (bs.map V.bl) ∧ Q (.bl (g bs)) H := by
  by_cases hd : ∃ xs, ds = [.lst xs]
  · obtain ⟨xs, rfl⟩ := hd
    obtain ⟨v, rfl, r1⟩ := vals_inv1 r
    cases r1 with
    | @lst p vs _ fp hp l =>
      rw [hf] at h
      cases q : blsD xs with
      | none => rw [q] at h; exact h.no.elim
      | some bs =>
        rw [q] at h
        exact ⟨p, bs, rfl, by rw [← l.bls q]; exact SqL.of hp, h.ret (.bl _)⟩
  · rw [hf2 ds (fun xs z => hd ⟨xs, z⟩)] at h
    exact h.no.elim
theorem int_read {g : List Int → T D} {σ : St} {env : Env} {us : List Addr} {C : Cf} {n : Nat} {H : Hp} {vs : List V} {ds : List D} {Q : VK} {f : List D → T D} (hf : ∀ xs, f [.lst xs] = (match intsD xs with | some bs => g bs | none => .fail)) (hf2 : ∀ ds, (∀ xs, ds ≠ [.lst xs]) → f ds = .fail)
    (r : RepL G (C.vw b1) H vs ds) (h : At G W (rV G false) σ env us C n H (f ds) Q) : ∃ (a : Addr) (bs : List Int), vs = [V.ref a] ∧ SqL G.K H a (bs.map V.int) ∧ At G W (rV G false) σ env us C n H (g bs) Q := by
  by_cases hd : ∃ xs, ds = [.lst xs]
  · obtain ⟨xs, rfl⟩ := hd
    obtain ⟨v, rfl, r1⟩ := vals_inv1 r
    cases r1 with
    | @lst p vs _ fp hp l =>
      rw [hf] at h
      cases q : intsD xs with
      | none => rw [q] at h; exact h.no.elim
      | some bs =>
        rw [q] at h
        exact ⟨p, bs, rfl, by rw [← l.ints q]; exact SqL.of hp, h⟩
  · rw [hf2 ds (fun xs z => hd ⟨xs, z⟩)] at h
    exact h.no.elim
theorem one_or {f : List D → T D} (h : ∀ d, (∀ xs, d ≠ .lst xs) → f [d] = .fail) (h0 : f [] = .fail) (h2 : ∀ a b l, f (a :: b :: l) = .fail) : ∀ ds, (∀ xs, ds ≠ [.lst xs]) → f ds = .fail
  | [], _ => h0
  | [d], k => h d fun xs z => k xs (by rw [z])
  | a :: b :: l, _ => h2 a b l
theorem s_all (hk : X.K = G.K) (hc : X.calm = true) (hg : Gl X "all") (hm : X.mg "all" = none) (ha : PE X e (tQ G W b1 m)) (hs : starEach [e] X.env = (false, eval e X.env) :: starEach [] X.env := by rfl) (hpl : (backTo pos (starEach [] X.env)).any (·.1) = false := by rfl) :
    PE X (.Call (.Name "all" p) [e] [] pos) (tQ G W false (qN allF (aCons m aNil))) := by
  have hc' := cr_all (X := X) hc
  rw [hk] at hc'
  exact s_callB hc' (fun σ env us C n H vs ds Q r h => bl_read (f := allF) (g := fun bs => bs.all id) (fun _ => rfl) (one_or (fun d k => by cases d <;> first | rfl | exact absurd rfl (k _)) rfl (fun a b l => by cases a <;> rfl)) r h) hg hm (by decide +kernel) (a_cons ha a_nil hs) (by decide) (by decide) hs hpl
theorem s_any (hk : X.K = G.K) (hc : X.calm = true) (hg : Gl X "any") (hm : X.mg "any" = none) (ha : PE X e (tQ G W b1 m)) (hs : starEach [e] X.env = (false, eval e X.env) :: starEach [] X.env := by rfl) (hpl : (backTo pos (starEach [] X.env)).any (·.1) = false := by rfl) :
    PE X (.Call (.Name "any" p) [e] [] pos) (tQ G W false (qN anyF (aCons m aNil))) := by
  have hc' := cr_any (X := X) hc
  rw [hk] at hc'
  exact s_callB hc' (fun σ env us C n H vs ds Q r h => bl_read (f := anyF) (g := fun bs => bs.any id) (fun _ => rfl) (one_or (fun d k => by cases d <;> first | rfl | exact absurd rfl (k _)) rfl (fun a b l => by cases a <;> rfl)) r h) hg hm (by decide +kernel) (a_cons ha a_nil hs) (by decide) (by decide) hs hpl
theorem s_sum (hk : X.K = G.K) (hc : X.calm = true) (hg : Gl X "sum") (hm : X.mg "sum" = none) (ha : PE X e (tQ G W b1 m)) (hs : starEach [e] X.env = (false, eval e X.env) :: starEach [] X.env := by rfl) (hpl : (backTo pos (starEach [] X.env)).any (·.1) = false := by rfl) :
    PE X (.Call (.Name "sum" p) [e] [] pos) (tQ G W false (qN sumF (aCons m aNil))) := by
  have hc' := cr_sum (X := X) hc
  rw [hk] at hc'
  refine s_callB hc' (fun σ env us C n H vs ds Q r h => ?_) hg hm (by decide +kernel) (a_cons ha a_nil hs) (by decide) (by decide) hs hpl
  obtain ⟨a, bs, h1, h2, h3⟩ := int_read (f := sumF) (g := fun bs => .ret (.int bs.sum)) (fun _ => rfl) (one_or (fun d k => by cases d <;> first | rfl | exact absurd rfl (k _)) rfl (fun a b l => by cases a <;> rfl)) r h
  exact ⟨a, bs, h1, h2, h3.ret (.int _)⟩
theorem s_max1 (hk : X.K = G.K) (hc : X.calm = true) (hg : Gl X "max") (hm : X.mg "max" = none) (ha : PE X e (tQ G W b1 m)) (hs : starEach [e] X.env = (false, eval e X.env) :: starEach [] X.env := by rfl) (hpl : (backTo pos (starEach [] X.env)).any (·.1) = false := by rfl) :
    PE X (.Call (.Name "max" p) [e] [] pos) (tQ G W false (qN max1F (aCons m aNil))) := by
  have hc' := cr_max (X := X) hc
  rw [hk] at hc'
  refine s_callB hc' (fun σ env us C n H vs ds Q r h => ?_) hg hm (by decide +kernel) (a_cons ha a_nil hs) (by decide) (by decide) hs hpl
  obtain ⟨a, bs, h1, h2, h3⟩ := int_read (f := max1F) (g := fun bs => match bs with | a :: l => .ret (.int (maxI a l)) | [] => .fail) (fun _ => rfl) (one_or (fun d k => by cases d <;> first | rfl | exact absurd rfl (k _)) rfl (fun a b l => by cases a <;> rfl)) r h
  cases bs with
  | nil => exact h3.no.elim
  | cons c l =>
    refine ⟨a, _, h1, h2, by simp, fun m hm hle => ?_⟩
    have z := maxI_spec l c
    have e : m = maxI c l := by
      have := hle _ z.1
      have := z.2 m hm
      omega
    rw [e]
    exact h3.ret (.int _)
theorem s_min1 (hk : X.K = G.K) (hc : X.calm = true) (hg : Gl X "min") (hm : X.mg "min" = none) (ha : PE X e (tQ G W b1 m)) (hs : starEach [e] X.env = (false, eval e X.env) :: starEach [] X.env := by rfl) (hpl : (backTo pos (starEach [] X.env)).any (·.1) = false := by rfl) :
    PE X (.Call (.Name "min" p) [e] [] pos) (tQ G W false (qN min1F (aCons m aNil))) := by
  have hc' := cr_min (X := X) hc
  rw [hk] at hc'
  refine s_callB hc' (fun σ env us C n H vs ds Q r h => ?_) hg hm (by decide +kernel) (a_cons ha a_nil hs) (by decide) (by decide) hs hpl
  obtain ⟨a, bs, h1, h2, h3⟩ := int_read (f := min1F) (g := fun bs => match bs with | a :: l => .ret (.int (minI a l)) | [] => .fail) (fun _ => rfl) (one_or (fun d k => by cases d <;> first | rfl | exact absurd rfl (k _)) rfl (fun a b l => by cases a <;> rfl)) r h
  cases bs with
  | nil => exact h3.no.elim
  | cons c l =>
    refine ⟨a, _, h1, h2, by simp, fun m hm hle => ?_⟩
    have z := minI_spec l c
    have e : m = minI c l := by
      have := hle _ z.1
      have := z.2 m hm
      omega
    rw [e]
    exact h3.ret (.int _)
end
end Pu
set_option Elab.async false
set_option linter.all false
set_option maxRecDepth 100000
set_option maxHeartbeats 4000000
namespace Pu
open PySem L2 Stp NdefX
open PyProof.Rows hiding St
/-! ### ways that the state decides -/
section
variable {X : Cx} {G : GC} {W : WX} {b : Bool} {m k : Env → T D} {ms ks : Env → T Fl} {mt kt : Env → T Bool} {e : Expr} {st : Stmt}
theorem s_case (p : Env → Bool) (h1 : PE X e (tQ G W b m)) (h2 : PE X e (tQ G W b k)) : PE X e (tQ G W b fun env => if p env = true then m env else k env) := ⟨fun pins s σ H Q I hw => by
  obtain ⟨C, n, env, us, hw⟩ := hw
  dsimp only at hw
  by_cases h : p env = true
  · rw [if_pos h] at hw; exact h1.run pins s σ H Q I ⟨C, n, env, us, hw⟩
  · rw [if_neg h] at hw; exact h2.run pins s σ H Q I ⟨C, n, env, us, hw⟩⟩
theorem st_case (p : Env → Bool) (h1 : PS X st (tS G W ms)) (h2 : PS X st (tS G W ks)) : PS X st (tS G W fun env => if p env = true then ms env else ks env) := ⟨fun pins s σ H Q I hw => by
  obtain ⟨C, n, env, us, hw⟩ := hw
  dsimp only at hw
  by_cases h : p env = true
  · rw [if_pos h] at hw; exact h1.run pins s σ H Q I ⟨C, n, env, us, hw⟩
  · rw [if_neg h] at hw; exact h2.run pins s σ H Q I ⟨C, n, env, us, hw⟩⟩
end
/-! ### fields -/
def lookF (fs : List (Str × D)) (f : Str) : Option D := fs.lookup f
def putFD (f : Str) (d : D) : List (Str × D) → List (Str × D)
  | [] => [(f, d)]
  | (g, x) :: r => if g = f then (g, d) :: r else (g, x) :: putFD f d r
def fldD (f : Str) (cs : List Nat) : D → T D
  | .obj c fs => if c ∈ cs then ofO (fs.lookup f) else .fail
  | _ => .fail
section
variable {G : GC} {C : Cf} {H : Hp}
theorem RepF.look (f : Str) : ∀ {vs : List (Str × V)} {ds : List (Str × D)} {d : D}, RepF G C H vs ds → ds.lookup f = some d → ∃ v, vs.lookup f = some v ∧ Rep G C H v d
  | _, _, _, .nil, e => by cases e
  | _, _, d, .cons (k := k) (v := v) (vs := vs) (d := d') (ds := ds) r l, e => by
    rw [List.lookup_cons] at e
    rw [List.lookup_cons]
    by_cases h : (f == k) = true
    · rw [h] at e ⊢
      cases e
      exact ⟨v, rfl, r⟩
    · have h' : (f == k) = false := Bool.eq_false_iff.mpr h
      rw [h'] at e ⊢
      exact RepF.look f l e
theorem RepF.none (f : Str) : ∀ {vs : List (Str × V)} {ds : List (Str × D)}, RepF G C H vs ds → ds.lookup f = none → vs.lookup f = none
  | _, _, .nil, _ => rfl
  | _, _, .cons (k := k) (v := v) (vs := vs) (d := d') (ds := ds) r l, e => by
    rw [List.lookup_cons] at e
    rw [List.lookup_cons]
    by_cases h : (f == k) = true
    · rw [h] at e; cases e
    · have h' : (f == k) = false := Bool.eq_false_iff.mpr h
      rw [h'] at e ⊢
      exact RepF.none f l e
theorem RepF.put (f : Str) {v : V} {d : D} (rv : Rep G C H v d) : ∀ {vs : List (Str × V)} {ds : List (Str × D)}, RepF G C H vs ds → RepF G C H (putF f v vs) (putFD f d ds)
  | _, _, .nil => .cons rv .nil
  | _, _, .cons (k := k) r l => by
    unfold putF putFD
    by_cases h : k = f
    · rw [if_pos h, if_pos h]; exact .cons rv l
    · rw [if_neg h, if_neg h]; exact .cons r (RepF.put f rv l)
theorem RepF.len : ∀ {vs : List (Str × V)} {ds : List (Str × D)}, RepF G C H vs ds → vs.length = ds.length
  | _, _, .nil => rfl
  | _, _, .cons _ l => congrArg (· + 1) (RepF.len l)
end
section
variable {X : Cx} {G : GC} {W : WX} {b : Bool} {m : Env → T D} {e : Expr} {pos : Pos} {f : Str} {cs : List Nat}
theorem s_fld (cs : List Nat) (hk : X.K = G.K) (hc : ∀ c ∈ cs, ∀ A, G.cA c = some A → Cls G.K A ∧ NoAttr G.K A f) (he : PE X e (tQ G W b m)) (hb : attributeBase e f X.env (eval e X.env) = eval e X.env := by rfl) : PE X (.Attribute e f pos) (tQ G W b (q1 (fldD f cs) m)) := by
  refine PE.imp (pe_fld he hb) fun σ H Q h => ?_
  obtain ⟨C, n, env, us, h⟩ := h
  refine ⟨C, n, env, us, (h.bind (R := rV G b)).imp ?_⟩
  rintro v H1 ⟨C1, n1, d, s1, r1, h1⟩
  rw [hk]
  cases r1 <;> try exact h1.no.elim
  case obj p A dx c vs ds fp hp hA l =>
    have h1 : At G W (rV G b) σ env us C1 n1 H1 (if c ∈ cs then ofO (ds.lookup f) else .fail) Q := h1
    by_cases hc' : c ∈ cs
    · rw [if_pos hc'] at h1
      obtain ⟨d, e1, h1⟩ := h1.ofO
      obtain ⟨u, e2, ru⟩ := l.look f e1
      exact ⟨p, A, dx, vs, u, rfl, hp, (hc c hc' A hA).1, (hc c hc' A hA).2, e2, h1.ret ru⟩
    · rw [if_neg hc'] at h1; exact h1.no.elim
end
/-! ### methods -/
def tMethS (A : Addr) (m : Str) (sp : Sp) (E : St → XK) (ta : TE) (t : TA) : TE := fun σ H Q => ta σ H fun x H1 => ∃ a dx fs, x = .ref a ∧ H1 a = some (.ins A dx fs) ∧ fs.lookup m = none ∧ t σ H1 fun vs H2 => sp (x :: vs) H2 Q (E σ)
section
variable {X : Cx} {CX : CXT} {k : Nat} {f A : Addr} {fd : FuncData} {ps : List Str} {sp : Sp} {E : St → XK} {m : Str} {pos apos : Pos} {e o : Expr} {es : List Expr} {ta : TE} {t : TA}
theorem pe_methS {pl : Sem Bool} (ho : PE X o ta) (c : Cls X.K A) (hm : Meth X.K A m f) (F : FnOk X.prog X.w X.K X.mg X.base CX k f fd ps sp) (hr : Room k X.A) (hb : Binds X.K fd ps []) (hx : ∀ σ, PassesAt CX X σ (E σ)) (ha : PA X (e :: es) t)
    (hst : starEach (e :: es) X.env = (false, eval e X.env) :: starEach es X.env := by rfl) (hpl : (backTo pos (starEach es X.env)).any (·.1) = false := by rfl)
    (ht : eval (.Call (.Attribute o m apos) (e :: es) [] pos) X.env = (do
      let ov ← eval o X.env
      standAt apos.atName
      let (f, first) ← holding [ov] (getMethod ov m pl)
      callWith pos f first (backTo pos (starEach (e :: es) X.env)) (backToKw pos (keywordEach [] X.env))) := by rfl) :
    PE X (.Call (.Attribute o m apos) (e :: es) [] pos) (tMethS A m sp E ta t) := ⟨fun pins s σ H Q I h => PySem.W.methodCall_KW (pl := pl) (thn (ho.run pins s σ H _ I h) fun u s1 hh => by
  obtain ⟨x, H1, I1, rx, a, dx, fs, ex, ea, l, q⟩ := hh
  subst ex
  cases rx
  refine getmeth_ok I1 ea c hm l (PySem.W.callWith_K (first := [.ref a]) (h₀ := X.base) I.ok.mod.kin hm.kp (thn (ha.run pos pins s1 σ H1 _ I1 q) fun us s2 hq => ?_) hst hpl)
  obtain ⟨vs, H2, I2, r, q2⟩ := hq
  exact ⟨I2.kIn, run_fnS (us := .ref a :: us) (vs := .ref a :: vs) F hr hb (hx σ) I2 (.cons rfl r) q2⟩) ht⟩
theorem pe_meth0S {pl : Sem Bool} (ho : PE X o ta) (c : Cls X.K A) (hm : Meth X.K A m f) (F : FnOk X.prog X.w X.K X.mg X.base CX k f fd ps sp) (hr : Room k X.A) (hb : Binds X.K fd ps []) (hx : ∀ σ, PassesAt CX X σ (E σ))
    (ht : eval (.Call (.Attribute o m apos) [] [] pos) X.env = (do
      let ov ← eval o X.env
      standAt apos.atName
      let (f, first) ← holding [ov] (getMethod ov m pl)
      callWith pos f first (backTo pos (starEach [] X.env)) (backToKw pos (keywordEach [] X.env))) := by rfl) :
    PE X (.Call (.Attribute o m apos) [] [] pos) (tMethS A m sp E ta tNil) := ⟨fun pins s σ H Q I h => PySem.W.methodCall_KW (pl := pl) (thn (ho.run pins s σ H _ I h) fun u s1 hh => by
  obtain ⟨x, H1, I1, rx, a, dx, fs, ex, ea, l, q⟩ := hh
  subst ex
  cases rx
  exact getmeth_ok I1 ea c hm l (PySem.W.callWith_K0 (first := [.ref a]) I1.kIn hm.kp (run_fnS (us := [.ref a]) (vs := [.ref a]) F hr hb (hx σ) I1 (.cons rfl .nil) q))) ht⟩
end
/-- o.m(..) of an object of the class c -/
def qMeth (c : Nat) (m : Str) (np : Nat) (mf : List D → T D) (mo : Env → T D) (ma : Env → T (List D)) : Env → T D := fun env => (mo env).bind fun o => match o with
  | .obj c' fs => if c' = c ∧ fs.lookup m = none then (ma env).bind fun ds => grd (ds.length + 1 = np) (mf (o :: ds)) else .fail
  | _ => .fail
section
variable {X : Cx} {G : GC} {W : WX} {k c : Nat} {f A : Addr} {fd : FuncData} {ps : List Str} {m : Str} {pos apos : Pos} {e o : Expr} {es : List Expr} {mo : Env → T D} {ma : Env → T (List D)} {mf : List D → T D}
theorem s_meth {pl : Sem Bool} (tk : Takes X W) (hA : G.cA c = some A) (cl : Cls X.K A) (hm : Meth X.K A m f) (F : FnOk X.prog X.w X.K X.mg X.base (L2.CX X.prog X.w) k f fd ps (spM G ps.length mf)) (hr : Room k X.A) (hb : Binds X.K fd ps []) (ho : PE X o (tQ G W false mo)) (ha : PA X (e :: es) (tA G W false ma))
    (hst : starEach (e :: es) X.env = (false, eval e X.env) :: starEach es X.env := by rfl) (hpl : (backTo pos (starEach es X.env)).any (·.1) = false := by rfl)
    (ht : eval (.Call (.Attribute o m apos) (e :: es) [] pos) X.env = (do
      let ov ← eval o X.env
      standAt apos.atName
      let (f, first) ← holding [ov] (getMethod ov m pl)
      callWith pos f first (backTo pos (starEach (e :: es) X.env)) (backToKw pos (keywordEach [] X.env))) := by rfl) :
    PE X (.Call (.Attribute o m apos) (e :: es) [] pos) (tQ G W false (qMeth c m ps.length mf mo ma)) :=
  PE.imp (pe_methS ho cl hm F hr hb (fun σ => passAt tk σ) ha hst hpl ht) fun σ H Q h => by
    obtain ⟨C, n, env, us, h⟩ := h
    refine ⟨C, n, env, us, (h.bind (R := rV G false)).imp ?_⟩
    rintro v H1 ⟨C1, n1, d, s1, r1, h1⟩
    have r1 := r1.unview
    cases r1 <;> try exact h1.no.elim
    case obj p A' dx c' vs ds fp hp hA' l =>
      replace h1 : At G W (rV G false) σ env us C1 n1 H1 (if c' = c ∧ ds.lookup m = none then (ma env).bind fun es => grd (es.length + 1 = ps.length) (mf (.obj c' ds :: es)) else .fail) Q := h1
      by_cases hc : c' = c ∧ ds.lookup m = none
      · rw [if_pos hc] at h1
        obtain ⟨hc1, hc2⟩ := hc
        subst hc1
        rw [hA] at hA'
        cases hA'
        refine ⟨p, dx, vs, rfl, hp, l.none m hc2, C1, n1, env, us, (h1.bind (R := rA G false)).imp ?_⟩
        rintro us2 H2 ⟨C2, n2, es, s2, r2, h2⟩
        obtain ⟨hl, h2⟩ := h2.grd
        exact ⟨C2, n2, .obj c' ds :: es, h2.ok.wf, .cons ((Rep.obj fp hp hA l).nx s2.nx) (r2.nx (Nx.unview _ _)), hl, T.wp_mono h2.wp (fun d n' _ z C' H' v s w r => z C' H' v s w (r.view false)) (fun e n' _ z C' H' cls dx s w r => z C' H' cls dx s w r)⟩
      · rw [if_neg hc] at h1; exact h1.no.elim
end
/-! ### __init__ -/
/-- the promise of an __init__ that runs as m: the fields behind it -/
def spI (G : GC) (np : Nat) (m : Nat → List (Str × D) → List D → T (List (Str × D))) : Sp := fun vs H Q E => ∃ C n c A dx a vfs fs ws ds, vs = .ref a :: ws ∧ H a = some (.ins A dx vfs) ∧ G.cA c = some A ∧ RepF G C H vfs fs ∧ RepL G C H ws ds ∧ ds.length + 1 = np ∧ Wf G C n H ∧ ¬ C.F a ∧ a ∉ C.pa ∧
  (m c fs ds).wp n (fun fs' n' => ∀ C' H' vfs', Step [a] C H C' H' → Wf G C' n' H' → ¬ C'.F a → a ∉ C'.pa → H' a = some (.ins A dx vfs') → RepF G C' H' vfs' fs' → Q .non H') (fun e n' => ∀ C' H' cls dx', Step [a] C H C' H' → Wf G C' n' H' → RepX G cls dx' e → E cls dx' H')
def endI : Fl → T (List (Str × D))
  | .nx env => (match env[(0 : Nat)]? with
    | some (some (O.me _ fs)) => .ret fs
    | _ => .fail)
  | .ex e _ => .ex e
  | _ => .fail
def startI (nN c : Nat) (fs : List (Str × D)) (ds : List D) : Env := some (.me c fs) :: (ds.map (fun d => some (.fz d)) ++ List.replicate (nN - (ds.length + 1)) none)
def runI (nN : Nat) (m : Env → T Fl) (c : Nat) (fs : List (Str × D)) (ds : List D) : T (List (Str × D)) := (m (startI nN c fs ds)).noX.bind endI
def Cf.setMe (C : Cf) (x : Option (Addr × Addr × Addr)) : Cf := ⟨C.F, C.pen, x⟩
theorem Nx.setMe (C : Cf) (x : Option (Addr × Addr × Addr)) (H : Hp) : Nx C (C.setMe x) H H := ⟨fun _ _ f h _ => ⟨f, h⟩, fun _ _ h => h, fun _ _ _ h => h, fun _ _ h => h, fun _ h => h⟩
theorem Nx.unsetMe (C : Cf) (x : Option (Addr × Addr × Addr)) (H : Hp) : Nx (C.setMe x) C H H := ⟨fun _ _ f h _ => ⟨f, h⟩, fun _ _ h => h, fun _ _ _ h => h, fun _ _ h => h, fun _ h => h⟩
theorem Wf.setMe {G : GC} {C : Cf} {n : Nat} {H : Hp} (w : Wf G C n H) (x : Option (Addr × Addr × Addr)) : Wf G (C.setMe x) n H := ⟨w.pen, w.fz, w.tab⟩
theorem Step.unMe {us : List Addr} {C C' : Cf} {H H' : Hp} {x : Option (Addr × Addr × Addr)} (s : Step us (C.setMe x) H C' H') : Step us C H (C'.setMe C.me) H' :=
  ⟨s.kp, s.al, ⟨fun a o f h t => s.nx.fk a o f h t, s.nx.tp, s.nx.fp, s.nx.xp, s.nx.pn⟩, s.fn, s.pf, rfl⟩
section
variable {G : GC} {H : Hp}
theorem spI_read {N : List Str} {np : Nat} {m : Env → T Fl} {vs : List V} {Q : VK} {E : XK} (h : spI G np (runI N.length m) vs H Q E) : tS G (fun cls d _ H => E cls d H) m { nx := fun _ H' => Q .non H', rt := Q } (L2.start N vs) H := by
  obtain ⟨C, n, c, A, dx, a, vfs, fs, ws, ds, rfl, ha, hA, rf, rl, hl, wf, nf, np', w⟩ := h
  have nx := Nx.setMe C (some (a, A, dx)) H
  have er : EnvR G (C.setMe (some (a, A, dx))) H (L2.start N (.ref a :: ws)) (startI N.length c fs ds) [a] := by
    unfold L2.start startI
    rw [List.map_cons, List.cons_append, List.length_cons, rl.length]
    exact .has (us1 := [a]) (us := []) (.me rfl ha hA (rf.nx nx)) (EnvR.start _ (rl.nx nx))
  refine ⟨C.setMe (some (a, A, dx)), n, startI N.length c fs ds, [a], ⟨wf.setMe _, er, by simp, fun b m => ?_⟩, ?_⟩
  · rw [List.mem_singleton.mp m]
    exact ⟨nf, np', _, ha, fun _ z => by cases z⟩
  refine T.wp_mono (T.wp_noX (E' := fun _ _ => False) (T.wp_bind w)) (fun r n' _ z C' H' us' s hu => ?_) (fun e n' _ z => z)
  have s' := s.unMe
  cases r with
  | nx env =>
    intro σ ok
    cases q : env[(0 : Nat)]? with
    | none =>
      have z : (T.wp (match env[(0 : Nat)]? with | some (some (O.me _ fs)) => .ret fs | _ => .fail) n' _ _) := z
      rw [q] at z
      exact False.elim z
    | some oo =>
      have z : (T.wp (match env[(0 : Nat)]? with | some (some (O.me _ fs)) => .ret fs | _ => .fail) n' _ _) := z
      rw [q] at z
      cases oo with
      | none => exact False.elim z
      | some o =>
        cases o <;> try exact False.elim z
        case me c' fs' =>
          obtain ⟨v, us1, h1, h2, h3⟩ := ok.env.at q
          cases h2 with
          | @me b B dy _ vfs' _ em hb hB rf' =>
            have e1 : C'.me = some (a, A, dx) := s.me
            rw [e1] at em
            cases em
            have ma := h3 a (List.mem_singleton.mpr rfl)
            obtain ⟨q1, q2, _⟩ := ok.us a ma
            exact z (C'.setMe C.me) H' vfs' s' (ok.wf.setMe _) q1 q2 hb (rf'.nx (Nx.setMe C' C.me H'))
  | rt d => exact False.elim z
  | ro o => exact False.elim z
  | bk env => exact False.elim z
  | ct env => exact False.elim z
  | ex e env => exact fun σ cls dx ok rx => z (C'.setMe C.me) H' cls dx s' (ok.wf.setMe _) rx
end
section
variable {P : Program} {w : World} {K : PySem.W.Frag} {mg : Str → Option Value} {base : Heap} {G : GC}
theorem fn_init {x qual : Str} {st : Stmt} {f : Addr} {fd : FuncData} {N ps : List Str} {k : Nat} {m : Env → T Fl} (F : Fun K x qual st f fd) (S : FnScope N ps (defScope st))
    (hb : ∀ (cdv : Value) (A : Around) (outer : List PySem.Env) (s : Shared) (H : Hp) (E : XK), Room k (A.deeper (envOfC qual (defScope st) s.heap.objs.size f cdv)) →
      PSs (cxOf (L2.CX P w) P w K mg base N qual (defScope st) f cdv A outer s H E) (defBody st) (tS G (fun cls d _ H => E cls d H) m)) : FnOk P w K mg base (L2.CX P w) (k + 1) f fd ps (spI G ps.length (runI N.length m)) :=
  F.okX S (fun vs H Q E h => by
    obtain ⟨C, n, c, A, dx, a, vfs, fs, ws, ds, rfl, ha, hA, rf, rl, hl, _⟩ := h
    rw [List.length_cons, rl.length, hl]) fun cdv A outer s H vs Q E hr h => ⟨_, hb cdv A outer s H E hr, spI_read h⟩
end
/-- self.f = e, in an __init__ -/
def meS (cs : List Nat) (f : Str) (m : Env → T D) : Env → T Fl := fun env => match env[(0 : Nat)]? with
  | some (some (O.me c fs)) => if c ∈ cs ∧ fs.length < 100 then exS m (fun d env => .ret (.nx (env.set 0 (some (.me c (putFD f d fs)))))) env else .fail
  | _ => .fail
/-- Base.__init__(self, ..) -/
def baseS (m : Nat → List (Str × D) → List D → T (List (Str × D))) (np : Nat) (ma : Env → T (List D)) : Env → T Fl := fun env => match env[(0 : Nat)]? with
  | some (some (O.me c fs)) => exS (fun env => (ma env).bind fun ds => grd (ds.length + 1 = np) (m c fs ds).noX) (fun fs' env => .ret (.nx (env.set 0 (some (.me c fs'))))) env
  | _ => .fail
section
variable {X : Cx} {G : GC} {W : WX} {cs : List Nat} {f : Str} {m : Env → T D} {o e : Expr} {pos pos' : Pos}
theorem me_at {t : Nat → List (Str × D) → T Fl} {env : Env} {n : Nat} {Q : Fl → Nat → Prop} {E : D → Nat → Prop} (h : T.wp (match env[(0 : Nat)]? with | some (some (O.me c fs)) => t c fs | _ => .fail) n Q E) : ∃ c fs, env[(0 : Nat)]? = some (some (O.me c fs)) ∧ (t c fs).wp n Q E := by
  cases q : env[(0 : Nat)]? with
  | none => rw [q] at h; exact False.elim h
  | some oo =>
    rw [q] at h
    cases oo with
    | none => exact False.elim h
    | some o => cases o <;> first | exact ⟨_, _, rfl, h⟩ | exact False.elim h
theorem Ok.atMe {C : Cf} {n c : Nat} {H : Hp} {σ : St} {env : Env} {us : List Addr} {fs : List (Str × D)} (k : Ok G C n σ env us H) (e : env[(0 : Nat)]? = some (some (O.me c fs))) : ∃ a A dx vs, C.me = some (a, A, dx) ∧ σ[0]? = some (some (.ref a)) ∧ H a = some (.ins A dx vs) ∧ G.cA c = some A ∧ RepF G C H vs fs ∧ a ∈ us ∧ ¬ C.F a ∧ a ∉ C.pa := by
  obtain ⟨v, us1, h1, h2, h3⟩ := k.env.at e
  cases h2 with
  | @me a A dx _ vs _ em hp hA l =>
    have ma := h3 a (List.mem_singleton.mpr rfl)
    exact ⟨a, A, dx, vs, em, h1, hp, hA, l, ma, (k.us a ma).1, (k.us a ma).2.1⟩
theorem Ok.setMe' {C : Cf} {n c : Nat} {H : Hp} {σ : St} {env : Env} {us : List Addr} {fs fs' : List (Str × D)} {vs vs' : List (Str × V)} {a A dx : Addr} (k : Ok G C n σ env us H) (em : C.me = some (a, A, dx)) (f : σ[0]? = some (some (.ref a))) (e : env[(0 : Nat)]? = some (some (O.me c fs))) (hp : H a = some (.ins A dx vs)) (hA : G.cA c = some A) (ma : a ∈ us) (r' : RepF G C H vs' fs') :
    Ok G C n σ (env.set 0 (some (.me c fs'))) us (upd H a (.ins A dx vs')) ∧ Step us C H C (upd H a (.ins A dx vs')) :=
  k.mutA f e ma hp (fun _ z => by cases z) (fun _ _ z => by cases z) (fun _ z => by cases z) (fun _ z => by cases z) fun nx us1 q => by
    cases q with
    | me em' hq hA' lq => exact ⟨List.mem_singleton.mpr rfl, .me em upd_same hA (r'.nx nx)⟩
theorem st_me (cs : List Nat) (hk : X.K = G.K) (hc : ∀ c ∈ cs, ∀ A, G.cA c = some A → Cls G.K A ∧ NoAttr G.K A f) (ho : PE X o (tVar 0)) (he : PE X e (tQ G W false m)) (hs : swapsWith e (some (.Attribute o f pos')) pos.line X.env = pure false := by rfl) : PS X (.Assign [.Attribute o f pos'] e pos) (tS G W (meS cs f m)) := by
  refine PS.imp (ps_fld ho he hs) fun E σ H h => ?_
  obtain ⟨C, n, env, us, h⟩ := h
  obtain ⟨c, fs, e1, w⟩ := me_at (t := fun c fs => if c ∈ cs ∧ fs.length < 100 then exS m (fun d env => .ret (.nx (env.set 0 (some (.me c (putFD f d fs)))))) env else .fail) h.wp
  by_cases hcs : c ∈ cs ∧ fs.length < 100
  · rw [if_pos hcs] at w
    obtain ⟨a, A, dx, vs, em, f1, hp, hA, l, ma, nf, np⟩ := h.ok.atMe e1
    refine ⟨C, n, env, us, (AtS.expr (R := rV G false) (σ := σ) (H := H) (C := C) (n := n) (us := us) (W := W) (E := E) ⟨h.ok, w⟩).imp ?_⟩
    rintro v H1 ⟨C1, n1, d, s1, r1, h1⟩
    have hp1 : H1 a = some (.ins A dx vs) := s1.kp a _ hp (fun _ z => by cases z) (by simp) np
    have l1 := l.nx s1.nx
    obtain ⟨k2, s2⟩ := h1.ok.setMe' (s1.me.trans em) f1 e1 hp1 hA ma (l1.put f r1.unview)
    refine ⟨.ref a, f1, a, A, dx, vs, rfl, hp1, ?_, ?_, ?_, h1.ret s2 (fun a m => .inl m) σ k2⟩
    · rw [hk]; exact (hc c hcs.1 A hA).1
    · rw [hk]; exact (hc c hcs.1 A hA).2
    · rw [l1.len]; omega
  · rw [if_neg hcs] at w; exact False.elim w
end
/-! ### a new object -/
section
variable {X : Cx} {G : GC} {E : XK} {k c : Nat} {f A : Addr} {fd : FuncData} {ps : List Str} {x : Str} {p pos : Pos} {e : Expr} {es : List Expr} {ma : Env → T (List D)} {mi : Nat → List (Str × D) → List D → T (List (Str × D))}
/-- C(..) -/
theorem s_make (hx : Passes (L2.CX X.prog X.w) X E) (hA : G.cA c = some A) (M : Mk X.K A f) (F : FnOk X.prog X.w X.K X.mg X.base (L2.CX X.prog X.w) k f fd ps (spI G ps.length mi)) (hr : Room (k + 1) X.A) (hg : Gl X x) (hm : X.mg x = some (.ref A)) (hb : Binds X.K fd ps [])
    (ha : PA X (e :: es) (tA G (fun cls d _ H => E cls d H) false ma)) (hdb : (x == ("__debug__" : Str)) = false := by decide) (he : starEach (e :: es) X.env = (false, eval e X.env) :: starEach es X.env := by rfl) (hpl : (backTo pos (starEach es X.env)).any (·.1) = false := by rfl) :
    PE X (.Call (.Name x p) (e :: es) [] pos) (tQ G (fun cls d _ H => E cls d H) false (qN (fun ds => grd (ds.length + 1 = ps.length) ((mi c [] ds).bind fun fs => .ret (.obj c fs))) ma)) := by
  refine PE.imp (pe_make M F hr hg hm hb .nil hx ha hdb he hpl) fun σ H Q h => ?_
  obtain ⟨C, n, env, us, h⟩ := h
  refine ⟨C, n, env, us, (h.bind (R := rA G false)).imp ?_⟩
  rintro vs H1 ⟨C1, n1, ds, s1, r1, h1⟩ a dx ha' hdx ne
  obtain ⟨hl, h1⟩ := h1.grd
  have s2 := step_tup (C := C1) (o := .own a) hdx
  have w2 := h1.ok.wf.tup (o := .own a) hdx
  have ha2 : upd H1 dx (.own a) a = none := by rw [upd_ne (Ne.symm ne)]; exact ha'
  have s3 := s2.trans (step_tup (C := C1) (o := .ins A dx []) ha2) (by simp)
  have w3 := w2.tup (o := .ins A dx []) ha2
  have nfa : ¬ C1.F a := fun z => by
    obtain ⟨⟨o, e, _⟩, _⟩ := h1.ok.wf.fz a z
    rw [ha'] at e; cases e
  rw [List.append_nil]
  refine ⟨C1, n1, c, A, dx, a, [], [], vs, ds, rfl, upd_same, hA, .nil, (r1.nx (Nx.unview _ _)).nx s3.nx, hl, w3, nfa, h1.ok.wf.pne ha', T.wp_mono (T.wp_bind h1.wp) ?_ ?_⟩
  · intro fs' n' _ z C' H' vfs' st wf nf np hv rf
    refine ⟨rfl, z ⟨fun b => b = a ∨ C'.F b, C'.pen, C'.me⟩ H' (.ref a) ?_ ?_ ?_⟩
    · have keep : ∀ b o, H1 b = some o → upd (upd H1 dx (.own a)) a (.ins A dx []) b = some o := fun b o e => by
        rw [upd_ne (ne_of_none e ha'), upd_ne (ne_of_none e hdx)]; exact e
      refine ⟨fun b o e t n1 n2 => st.kp b o (keep b o e) t (fun z => ne_of_none e ha' (List.mem_singleton.mp z)) n2, fun b o e => st.al b o (keep b o e), ⟨fun b o f e t => ?_, fun b xs e => st.nx.tp b xs (keep _ _ e), fun b o u e => st.nx.fp b o u (keep _ _ e), fun b φ e => st.nx.xp b φ (keep _ _ e), st.nx.pn⟩, fun b z => ?_, fun b z => ?_, st.me⟩
      · obtain ⟨q1, q2⟩ := st.nx.fk b o f (keep b o e) t
        exact ⟨.inr q1, q2⟩
      · rcases z with z | z
        · exact .inr (.inr (by rw [z]; exact ha'))
        · rcases st.fn b z with y | y | y
          · exact .inl y
          · exact .inr (.inr (by rw [List.mem_singleton.mp y]; exact ha'))
          · refine .inr (.inr ?_)
            by_cases hb : b = a
            · rw [hb]; exact ha'
            · by_cases hb2 : b = dx
              · rw [hb2]; exact hdx
              · rw [upd_ne hb, upd_ne hb2] at y; exact y
      · rcases st.pf b z with y | y
        · exact .inl y
        · refine .inr ?_
          by_cases hb : b = a
          · rw [hb]; exact ha'
          · by_cases hb2 : b = dx
            · rw [hb2]; exact hdx
            · rw [upd_ne hb, upd_ne hb2] at y; exact y
    · refine ⟨wf.pen, fun b z => ?_, wf.tab⟩
      rcases z with z | z
      · rw [z]; exact ⟨⟨_, hv, fun _ z => by cases z⟩, np⟩
      · exact wf.fz b z
    · have nxv : Nx C' ((⟨fun b => b = a ∨ C'.F b, C'.pen, C'.me⟩ : Cf).vw false) H' H' := ⟨fun b o f h _ => ⟨Or.inl (Or.inr f), h⟩, fun _ _ h => h, fun _ _ _ h => h, fun _ _ h => h, fun _ h => h⟩
      exact .obj (.inl (.inl rfl)) hv hA (rf.nx nxv)
  · intro e n' _ z C' H' cls dx' st wf rx
    refine z C' H' cls dx' ?_ wf rx
    have keep : ∀ b o, H1 b = some o → upd (upd H1 dx (.own a)) a (.ins A dx []) b = some o := fun b o e => by
      rw [upd_ne (ne_of_none e ha'), upd_ne (ne_of_none e hdx)]; exact e
    have back : ∀ b, upd (upd H1 dx (.own a)) a (.ins A dx []) b = none → H1 b = none := fun b y => by
      by_cases hb : b = a
      · rw [hb]; exact ha'
      · by_cases hb2 : b = dx
        · rw [hb2]; exact hdx
        · rw [upd_ne hb, upd_ne hb2] at y; exact y
    refine ⟨fun b o e t n1 n2 => st.kp b o (keep b o e) t (fun z => ne_of_none e ha' (List.mem_singleton.mp z)) n2, fun b o e => st.al b o (keep b o e), ⟨fun b o f e t => st.nx.fk b o f (keep b o e) t, fun b xs e => st.nx.tp b xs (keep _ _ e), fun b o u e => st.nx.fp b o u (keep _ _ e), fun b φ e => st.nx.xp b φ (keep _ _ e), st.nx.pn⟩, fun b z => ?_, fun b z => (st.pf b z).elim .inl fun y => .inr (back b y), st.me⟩
    rcases st.fn b z with y | y | y
    · exact .inl y
    · exact .inr (.inr (by rw [List.mem_singleton.mp y]; exact ha'))
    · exact .inr (.inr (back b y))
end
end Pu
set_option Elab.async false
set_option linter.all false
set_option maxRecDepth 100000
set_option maxHeartbeats 4000000
namespace Pu
open PySem L2 Stp NdefX
open PyProof.Rows hiding St
section
variable {X : Cx} {CX : CXT} {k : Nat} {f A : Addr} {fd : FuncData} {ps : List Str} {sp : Sp} {E : St → XK} {x m : Str} {p1 p2 pos : Pos} {e : Expr} {es : List Expr} {t : TA} {mc : Value}
/-- C.m(..), C an own class, m a def of it -/
theorem pe_clsfn {pl : Sem Bool} (hg : Gl X x) (hm : X.mg x = some (.ref A)) (r : ClX.CRead X.K A mc) (vV : PySem.W.findCls X.K (.ref A) mc m = some (.val (.ref f))) (hk : PySem.W.keepIn X.K (.ref f) = true) (F : FnOk X.prog X.w X.K X.mg X.base CX k f fd ps sp) (hr : Room k X.A) (hb : Binds X.K fd ps []) (hx : ∀ σ, PassesAt CX X σ (E σ)) (ha : PA X (e :: es) t)
    (hdb : (x == ("__debug__" : Str)) = false := by decide)
    (hc : eval (.Call (.Attribute (.Name x p1) m p2) (e :: es) [] pos) X.env = (do
      let ov ← eval (.Name x p1) X.env
      standAt p2.atName
      let (f, first) ← holding [ov] (getMethod ov m pl)
      callWith pos f first (backTo pos (starEach (e :: es) X.env)) (backToKw pos (keywordEach [] X.env))) := by rfl)
    (he : starEach (e :: es) X.env = (false, eval e X.env) :: starEach es X.env := by rfl) (hpl : (backTo pos (starEach es X.env)).any (·.1) = false := by rfl) :
    PE X (.Call (.Attribute (.Name x p1) m p2) (e :: es) [] pos) (tCallS sp E t) := ⟨fun pins s σ H Q I h => PySem.W.methodCall_KW (ld_glob I hg hm (PySem.W.method_cls I.kIn r.ga (PySem.W.cls_value I.kIn r.rd vV (handed_of (v := .ref f) rfl) (PySem.W.callWith_K (first := []) (h₀ := X.base) I.ok.mod.kin hk (thn (ha.run pos pins _ σ H _ (I.tok _) h) fun us s2 hq => by
  obtain ⟨vs, H2, I2, r, q2⟩ := hq
  exact ⟨I2.kIn, run_fnS F hr hb (hx σ) I2 r q2⟩) he hpl))) hdb) hc⟩
end
section
variable {X : Cx} {G : GC} {W : WX} {k : Nat} {f A : Addr} {fd : FuncData} {ps : List Str} {x m : Str} {p1 p2 pos spos : Pos} {e : Expr} {es : List Expr} {ma : Env → T (List D)} {mc : Value} {mi : Nat → List (Str × D) → List D → T (List (Str × D))}
theorem st_base {pl : Sem Bool} (tk : Takes X W) (hg : Gl X x) (hm : X.mg x = some (.ref A)) (r : ClX.CRead X.K A mc) (vV : PySem.W.findCls X.K (.ref A) mc m = some (.val (.ref f))) (hk : PySem.W.keepIn X.K (.ref f) = true) (F : FnOk X.prog X.w X.K X.mg X.base (L2.CX X.prog X.w) k f fd ps (spI G ps.length mi)) (hr : Room k X.A) (hb : Binds X.K fd ps [])
    (hs : PE X e (tVar 0)) (ha : PA X es (tA G W false ma)) (hdb : (x == ("__debug__" : Str)) = false := by decide)
    (hc : eval (.Call (.Attribute (.Name x p1) m p2) (e :: es) [] pos) X.env = (do
      let ov ← eval (.Name x p1) X.env
      standAt p2.atName
      let (f, first) ← holding [ov] (getMethod ov m pl)
      callWith pos f first (backTo pos (starEach (e :: es) X.env)) (backToKw pos (keywordEach [] X.env))) := by rfl)
    (he : starEach (e :: es) X.env = (false, eval e X.env) :: starEach es X.env := by rfl) (hpl : (backTo pos (starEach es X.env)).any (·.1) = false := by rfl)
    (hsw : swapsWith (.Call (.Attribute (.Name x p1) m p2) (e :: es) [] pos) none spos.line X.env = pure false := by rfl) :
    PS X (.Expr (.Call (.Attribute (.Name x p1) m p2) (e :: es) [] pos) spos) (tS G W (baseS mi ps.length ma)) := by
  refine PS.imp (ps_expr (pe_clsfn hg hm r vV hk F hr hb (fun σ => passAt tk σ) (pa_cons hs ha he) hdb hc he hpl) hsw) fun En σ H h => ?_
  obtain ⟨C, n, env, us, h⟩ := h
  obtain ⟨c, fs, e1, w⟩ := me_at (t := fun c fs => exS (fun env => (ma env).bind fun ds => grd (ds.length + 1 = ps.length) (mi c fs ds).noX) (fun fs' env => .ret (.nx (env.set 0 (some (.me c fs'))))) env) h.wp
  obtain ⟨a, A', dx, vs, em, f1, hp, hA, l, mem, nf, np⟩ := h.ok.atMe e1
  refine ⟨.ref a, f1, C, n, env, us, h.ok, T.wp_mono (T.wp_bind (T.wp_bindX w)) ?_ ?_⟩
  · intro ds n1 _ z C1 H1 ws s1 w1 r1
    have k1 := h.ok.q s1 w1
    obtain ⟨hl, z⟩ := grd_wp z
    have hp1 : H1 a = some (.ins A' dx vs) := s1.kp a _ hp (fun _ z => by cases z) (by simp) np
    obtain ⟨nf1, np1, _⟩ := k1.us a mem
    refine ⟨C1, n1, c, A', dx, a, vs, fs, ws, ds, rfl, hp1, hA, l.nx s1.nx, r1.nx (Nx.unview _ _), hl, w1, nf1, np1, T.wp_mono (T.wp_noX (E' := fun _ _ => False) z) ?_ (fun _ _ _ z => False.elim z)⟩
    · intro fs' n2 _ z2 C2 H2 vfs' st wf2 nf2 np2 hv rf
      have st' : Step us C1 H1 C2 H2 := st.up fun b mb => by rw [List.mem_singleton.mp mb]; exact mem
      have keep : ∀ b ∈ us, b ≠ a → ∀ u, H1 b = some u → H2 b = some u := fun b mb hb u e => by
        obtain ⟨_, q2, u', e', t⟩ := k1.us b mb
        rw [e] at e'; cases e'
        exact st.kp b u e t (fun y => hb (List.mem_singleton.mp y)) q2
      have em2 : C2.me = some (a, A', dx) := (st.me.trans s1.me).trans em
      have er : EnvR G C2 H2 σ (env.set 0 (some (.me c fs'))) us := by
        have k1e := k1.env
        cases k1e with
        | nil => simp at e1
        | skip r => simp at e1
        | @has v o us1 us2 σ2 env2 q r =>
          simp at e1
          subst e1
          cases q with
          | @me b B dy _ _ _ em' hq hB lq =>
            have e5 : some (b, B, dy) = some (a, A', dx) := em'.symm.trans (s1.me.trans em)
            cases e5
            have nd := k1.nd
            rw [List.nodup_append] at nd
            exact .has (us1 := [a]) (.me em2 hv hA rf) (r.nx st.nx st.me fun y my u e => keep y (List.mem_append_right _ my) (fun z => nd.2.2 a (List.mem_singleton.mpr rfl) y my z.symm) u e)
      have ok2 : Ok G C2 n2 σ (env.set 0 (some (.me c fs'))) us H2 := by
        refine ⟨wf2, er, k1.nd, fun b mb => ?_⟩
        obtain ⟨q1, q2, u, q3, q4⟩ := k1.us b mb
        by_cases hb : b = a
        · rw [hb]; exact ⟨nf2, np2, _, hv, fun _ z => by cases z⟩
        · refine ⟨fun y => ?_, fun y => ?_, u, keep b mb hb u q3, q4⟩
          · rcases st.fn b y with y | y | y
            · exact q1 y
            · exact hb (List.mem_singleton.mp y)
            · rw [q3] at y; cases y
          · rcases st.pf b y with y | y
            · exact q2 y
            · rw [q3] at y; cases y
      exact z2 C2 H2 us ((s1.up (us' := us) (by simp)).trans st' fun y my => .inl my) (fun y my => .inl my) σ ok2
  · intro e2 n1 _ z C1 H1 cls dx' s1 w1 rx
    exact z C1 H1 us (s1.up (by simp)) (fun a m => .inl m) σ cls dx' (h.ok.q s1 w1) rx
end
/-! ### properties -/
def propD (cs : List Nat) (mf : List D → T D) : D → T D
  | .obj c fs => if c ∈ cs then (mf [.obj c fs]).noX else .fail
  | _ => .fail
section
variable {X : Cx} {G : GC} {W : WX} {k : Nat} {g : Addr} {fd : FuncData} {f : Str} {pos : Pos} {e : Expr} {mo : Env → T D} {mf : List D → T D} {cs : List Nat}
def tPropS (K : PySem.W.Frag) (f : Str) (g : Addr) (sp : Sp) (ta : TE) : TE := fun σ H Q => ta σ H fun x H1 => ∃ a A p dx fs, x = .ref a ∧ H1 a = some (.ins A dx fs) ∧ Cls K A ∧ PropOf K A f p g ∧ sp [.ref a] H1 Q E0
theorem pe_propS {sp : Sp} {ta : TE} {ps : List Str} (he : PE X e ta) (F : FnOk X.prog X.w X.K X.mg X.base (L2.CX X.prog X.w) k g fd ps sp) (hr : Room (k + 1) X.A) (hb : Binds X.K fd ps []) (hab : attributeBase e f X.env (eval e X.env) = eval e X.env := by rfl) : PE X (.Attribute e f pos) (tPropS X.K f g sp ta) := ⟨fun pins s σ H Q I h => attr_of hab (thn (he.run pins s σ H _ I h) fun u s1 hh => by
  obtain ⟨x, H1, I1, rx, a, A, p, dx, fs, ex, ea, c, hp, q⟩ := hh
  subst ex
  cases rx
  exact getprop_ok I1 ea c hp F hr hb .nil passL q)⟩
theorem s_prop (cs : List Nat) (hk : X.K = G.K) (hc : ∀ c ∈ cs, ∀ A, G.cA c = some A → Cls G.K A ∧ ∃ p, PropOf G.K A f p g) (F : FnOk X.prog X.w X.K X.mg X.base (L2.CX X.prog X.w) k g fd ["self"] (spM G 1 mf)) (hr : Room (k + 1) X.A) (hb : Binds X.K fd ["self"] [])
    (he : PE X e (tQ G W false mo)) (hab : attributeBase e f X.env (eval e X.env) = eval e X.env := by rfl) : PE X (.Attribute e f pos) (tQ G W false (q1 (propD cs mf) mo)) := by
  refine PE.imp (pe_propS he F hr hb hab) fun σ H Q h => ?_
  obtain ⟨C, n, env, us, h⟩ := h
  refine ⟨C, n, env, us, (h.bind (R := rV G false)).imp ?_⟩
  rintro v H1 ⟨C1, n1, d, s1, r1, h1⟩
  have r1 := r1.unview
  cases r1 <;> try exact h1.no.elim
  case obj p A dx c vs ds fp hp hA l =>
    replace h1 : At G W (rV G false) σ env us C1 n1 H1 (if c ∈ cs then (mf [.obj c ds]).noX else .fail) Q := h1
    by_cases hcs : c ∈ cs
    · rw [if_pos hcs] at h1
      obtain ⟨c1, q, c2⟩ := hc c hcs A hA
      rw [hk]
      refine ⟨p, A, q, dx, vs, rfl, hp, c1, c2, C1, n1, [.obj c ds], h1.ok.wf, .cons (.obj fp hp hA l) .nil, rfl, T.wp_mono (T.wp_noX (E' := fun _ _ => False) h1.wp) (fun d n' _ z C' H' v s w r => z C' H' v s w (r.view false)) (fun _ _ _ z => False.elim z)⟩
    · rw [if_neg hcs] at h1; exact h1.no.elim
/-! ### len of an object -/
def lenO (cs : List Nat) (mf : List D → T D) : List D → T D
  | [.obj c fs] => if c ∈ cs then (mf [.obj c fs]).noX.bind fun d => (match d with
    | .int i => grd (0 ≤ i ∧ i < 9223372036854775808) (.ret (.int i))
    | _ => .fail) else .fail
  | _ => .fail
theorem s_lenO (cs : List Nat) (hk : X.K = G.K) (hc : ∀ c ∈ cs, ∀ A, G.cA c = some A → PySem.W.findIn G.K (.ref A) "__len__" = some (some (.ref g)) ∧ PySem.W.isFn G.K (.ref g) = true) (F : FnOk X.prog X.w X.K X.mg X.base (L2.CX X.prog X.w) k g fd ["self"] (spM G 1 mf)) (hr : Room (k + 1) X.A) (hb : Binds X.K fd ["self"] [])
    {p : Pos} (hg : Gl X "len") (hm : X.mg "len" = none) (ha : PE X e (tQ G W false mo)) (hs : starEach [e] X.env = (false, eval e X.env) :: starEach [] X.env := by rfl) (hpl : (backTo pos (starEach [] X.env)).any (·.1) = false := by rfl) :
    PE X (.Call (.Name "len" p) [e] [] pos) (tQ G W false (qN (lenO cs mf) (aCons mo aNil))) := by
  have cr : CallR X (.builtin "len") (fun xs H Q => ∃ a A dx fs, xs = [.ref a] ∧ H a = some (.ins A dx fs) ∧ PySem.W.findIn X.K (.ref A) "__len__" = some (some (.ref g)) ∧ PySem.W.isFn X.K (.ref g) = true ∧ spM G 1 mf [.ref a] H (fun v H' => ∃ i, v = .int i ∧ (0 ≤ i ∧ i < 2 ^ 63) ∧ Q (.int i) H') E0) := by
    intro pins s σ H xs us Q I r h
    obtain ⟨a, A, dx, fs, rfl, ea, h1, h2, q⟩ := h
    obtain ⟨u, rfl, ru⟩ := vals1 r
    cases ru
    obtain ⟨mA, J, _⟩ := ins_get I.hok ea
    obtain ⟨od, J, _⟩ := J.look
    obtain ⟨m, hF⟩ := I.fr
    refine PySem.W.len_K hF I.ok.mod.kin J h1 h2 ?_
    have hl := F.len _ _ _ _ q
    have b := hb s [.ref a] I.kIn rfl
    refine wpAny_call (codeAny_mono (F.run X.A.in1 X.stack s H ⟨[.ref a], []⟩ [.ref a] [.ref a] _ E0 hr.in1 I.env0.in1 b (.cons rfl .nil) q) fun r s' hq => ?_)
    cases r with
    | error e => exact False.elim (passL (X := X.nox) pins σ H s e s' (I.wish _) hq)
    | ok fl =>
      cases fl with
      | ret w =>
        obtain ⟨z, H', I', rz, i, ez, hi, q⟩ := I.after hq
        subst ez
        obtain ⟨t, rfl⟩ := rz
        exact ⟨hi, .int i, H', I'.tok _, ⟨_, rfl⟩, q⟩
      | next => exact False.elim hq
      | brk => exact False.elim hq
      | cont => exact False.elim hq
  refine s_callB cr (fun σ env us C n H vs ds Q r h => ?_) hg hm PySem.boot_len (a_cons ha a_nil hs) (by decide) (by decide) hs hpl
  cases r with
  | nil => exact h.no.elim
  | cons r1 l =>
    cases l with
    | cons _ _ => cases r1 <;> exact h.no.elim
    | nil =>
      have r1 := r1.unview
      cases r1 <;> try exact h.no.elim
      case obj p A dx c vs ds fp hp hA l =>
        replace h : At G W (rV G false) σ env us C n H (if c ∈ cs then (mf [.obj c ds]).noX.bind fun d => (match d with
          | .int i => grd (0 ≤ i ∧ i < 9223372036854775808) (.ret (.int i))
          | _ => .fail) else .fail) Q := h
        by_cases hcs : c ∈ cs
        · rw [if_pos hcs] at h
          obtain ⟨c1, c2⟩ := hc c hcs A hA
          rw [hk]
          refine ⟨p, A, dx, vs, rfl, hp, c1, c2, C, n, [.obj c ds], h.ok.wf, .cons (.obj fp hp hA l) .nil, rfl, T.wp_mono (T.wp_noX (E' := fun _ _ => False) (T.wp_bind h.wp)) (fun d n' _ z C' H' v s w r => ?_) (fun _ _ _ z => False.elim z)⟩
          cases r <;> try exact False.elim z
          case int i =>
            obtain ⟨hi, z⟩ := grd_wp z
            exact ⟨i, rfl, hi, z C' H' (.int i) s w (.int i)⟩
        · rw [if_neg hcs] at h; exact h.no.elim
end
end Pu
set_option Elab.async false
set_option linter.all false
set_option maxRecDepth 100000
set_option maxHeartbeats 4000000
namespace Pu
open PySem PySem.W
theorem neo_bind (self : Value) : bindSpecial (.builtin "object.__ne__") self = pure (.builtin "object.__ne__", [self]) :=
  (Slot.of (T := "object") (name := "__ne__") (owner := "object") (n := "__ne__") (by rw [typeLookup_type, builtinLookup_eq_fast]; kernel_rfl) (by decide +kernel) (by decide +kernel) (by decide +kernel) (.inl (by decide +kernel)) (by rw [isSubtype_type]; kernel_rfl)).bind self
theorem neo_plain : plainId "object.__ne__" = true := by decide +kernel
section
variable {prog : Program} {w : World} {A : Around} {E : Value → Shared → Prop} {s : Shared} {K : Frag} {h₀ : Heap} {L x C f : Addr} {ox : Obj} {od : Option Obj} {m : Str → Option Value} {b tb : Value}
theorem ne_try {Q : Option Value → Shared → Prop} (hu : A.units + 1 < cLine) (X : K.In s.heap) (I : InstAt s.heap x ox C od) (hs : findIn K (.ref C) "__ne__" = some (some (.builtin "object.__ne__"))) (he : findIn K (.ref C) "__eq__" = some (some (.ref f))) (hf : isFn K (.ref f) = true) (hm : subIn K (.ref C) (.type "object") = some true)
    (h : wpAny (model prog w) A.in1 (call (.ref f) [.ref x, b]) (fun v s' => ∃ k, v = .bool k ∧ Q (some (.bool (!k))) s') E s) : wpAny (model prog w) A (callSpecialIfBound? (.ref x) "__ne__" [b]) Q E s := by
  simp only [callSpecialIfBound?, bindSpecialIfBound?]
  refine wpAny_holding (wpAny_bind (wpAny_bind (wpAny_bind (I.type.here ((looks_findIn X hs).here ?_)))))
  refine wpAny_bind (wpAny_askSetting (wpAny_ite ?_))
  have fin : wpAny (model prog w) A (call (.builtin "object.__ne__") ([.ref x] ++ [b]) >>= fun v => pure (some v)) Q E s := by
    refine wpAny_bind (wpAny_call (codeAny_call_builtin neo_plain F.cmpEntry_ne (check_slot (owner := "object") (n := "__ne__") F.cmpKind_ne F.cmpSplit_ne (I.type.andThen (looks_subIn X hm)) (F.cmpArgs_ne _ _) ?_)))
    unfold Builtin.«object.__ne__»
    repeat (first
      | with_reducible refine wpAny_cRoomFor hu ?_
      | (refine wpAny_bind (m := callSpecialIfBound? (.ref x) (Str.ofString "__eq__") [b]) (ifBound_K X I he hf (wpAny_mono h (fun r s' hr => by
          obtain ⟨k, rfl, hq⟩ := hr
          repeat (first | exact hq | exact wpAny_pure hq | exact wpAny_truthy_bool hq | (refine wpAny_bind (m := truthy (.bool _)) (wpAny_truthy_bool ?_)) | wp_step)) fun _ _ e => e)))
      | wp_step)
  split
  · exact wpAny_bind (by rw [neo_bind]; exact wpAny_pure (wpAny_pure (by exact fin)))
  · exact wpAny_tryCatch (wpAny_bind (by rw [neo_bind]; exact wpAny_pure (wpAny_pure (by exact fin))))
end
end Pu
set_option Elab.async false
set_option linter.all false
set_option maxRecDepth 100000
set_option maxHeartbeats 4000000
namespace Pu
open PySem L2 Stp NdefX
open PyProof.Rows hiding St
/-! ### kinds of things: class ids below 100 are plain classes, the others exceptions -/
inductive KT where
  | b (n : String) | c (k : Nat)
deriving DecidableEq
def kt : D → Option KT
  | .non => some (.b "NoneType")
  | .bl _ => some (.b "bool")
  | .int _ => some (.b "int")
  | .str _ => some (.b "str")
  | .lst _ => some (.b "list")
  | .tup _ => some (.b "tuple")
  | .wt _ => some (.b "tuple")
  | .dK _ => some (.b "dict")
  | .dT _ => some (.b "dict")
  | .scr => some (.b "list")
  | .obj c _ => if c < 100 then some (.c c) else none
  | .exc c _ => if c < 100 then none else some (.c c)
  | _ => none
def GC.ktV (G : GC) : KT → Option Value
  | .b n => some (.type n)
  | .c k => (G.cA k).map Value.ref
structure InsC (K : PySem.W.Frag) (C : Addr) : Prop where
  cl : Cls K C
  ca : PySem.W.findIn K (.ref C) "__class__" = some (some (.builtin "object.__class__"))
  cg : PySem.W.specialIn K (.builtin "object.__class__") "__get__" = some (some (.builtin "getset_descriptor.__get__"))
  ct : PySem.W.takesIn K (.builtin "object.__class__") = some true
  mo : PySem.W.mroIn K C (.type "object") = some true
structure IsxC (K : PySem.W.Frag) (D : Addr) : Prop where
  cl : (PySem.W.clsIn K D).isSome = true
  ga : PySem.W.findIn K (.ref D) "__getattribute__" = some (some (.builtin "BaseException.__getattribute__"))
  gg : PySem.W.findIn K (.ref D) "__getattr__" = some none
  ex : PySem.W.subIn K (.ref D) (.type "BaseException") = some true
  ca : PySem.W.findIn K (.ref D) "__class__" = some (some (.builtin "object.__class__"))
  cg : PySem.W.specialIn K (.builtin "object.__class__") "__get__" = some (some (.builtin "getset_descriptor.__get__"))
  ct : PySem.W.takesIn K (.builtin "object.__class__") = some true
  mo : PySem.W.mroIn K D (.type "object") = some true
structure TyF (G : GC) : Prop where
  ob : ∀ c A, c < 100 → G.cA c = some A → InsC G.K A
  ex : ∀ c A, ¬ c < 100 → G.cA c = some A → IsxC G.K A
def Kit (K : PySem.W.Frag) (h : Heap) (u t : Value) : Prop := ∃ P : Heap → Prop, PySem.W.KitX K u t P ∧ P h ∧ u ≠ .builtin "__main__.__loader__#opaque"
theorem kit_ty {X : Cx} {pins : List (Addr × Obj)} {σ : St} {H : Hp} {s : Shared} {G : GC} {C : Cf} {v : V} {u tv : Value} {d : D} {t : KT} (hk : X.K = G.K) (F : TyF G) (I : Inv X pins σ H s) (rv : RelV v u) (r : Rep G C H v d) (e : kt d = some t) (et : G.ktV t = some tv) : Kit X.K s.heap u tv := by
  cases r <;> try (cases e; done)
  case non => cases e; cases et; exact kit_of I rv (.base .non)
  case bl => cases e; cases et; exact kit_of I rv (.base (.bl _))
  case int => cases e; cases et; exact kit_of I rv (.base (.int _))
  case str => cases e; cases et; exact kit_of I rv (.base (.str _))
  case tup h l => cases e; cases et; exact kit_of I rv (.base (.tup h))
  case lst f h l => cases e; cases et; exact kit_of I rv (.base (.lst h))
  case dK f h l => cases e; cases et; exact kit_of I rv (.base (.dK h))
  case dT f h l => cases e; cases et; exact kit_of I rv (.base (.dT h))
  case scr h => cases e; cases et; obtain ⟨o, h⟩ := h; exact kit_of I rv (.base (.frz h))
  case wt a vs ds h l =>
    cases e; cases et
    rcases h with (h | ⟨o, h⟩) | ⟨o, _, _, h1, h2, _⟩
    · cases h
    · cases h
    · exact kit_of I rv (.kTuple (by rw [hk]; exact h1) h2)
  case obj a A dx c vs ds f h hc l =>
    replace e : (if c < 100 then some (KT.c c) else none) = some t := e
    by_cases hl : c < 100
    · rw [if_pos hl] at e
      cases e
      have et : (G.cA c).map Value.ref = some tv := et
      rw [hc] at et
      cases et
      have Z := F.ob c A hl hc
      rw [← hk] at Z
      exact kit_of I rv (.base (.ins h Z.cl Z.ca Z.cg Z.ct Z.mo))
    · rw [if_neg hl] at e; cases e
  case exc a A c h hc =>
    replace e : (if c < 100 then none else some (KT.c c)) = some t := e
    by_cases hl : c < 100
    · rw [if_pos hl] at e; cases e
    · rw [if_neg hl] at e
      cases e
      have et : (G.cA c).map Value.ref = some tv := et
      rw [hc] at et
      cases et
      have Z := F.ex c A hl hc
      rw [← hk] at Z
      cases (show u = Value.ref a from rv)
      obtain ⟨⟨o, vs, ho, hd, hz1, hz2⟩, _⟩ := I.hok a _ h
      have J : PySem.W.InstAt s.heap a o A none := ⟨ho, hz1, by unfold PySem.W.notCls; rw [hd] <;> rfl, by rw [hz2]; trivial⟩
      exact ⟨_, PySem.W.kitx_exc Z.cl Z.ga Z.gg Z.ex Z.ca Z.cg Z.ct Z.mo, J, fun z => nomatch z⟩
/-! ### isinstance -/
abbrev KTab := KT → KT → Option Bool
def isiA (tb : KTab) (a : KT) : List D → Option Bool
  | [] => some false
  | .ty n :: l => (match tb a (.b n) with
    | some true => some true
    | some false => isiA tb a l
    | none => none)
  | .cls c :: l => (match tb a (.c c) with
    | some true => some true
    | some false => isiA tb a l
    | none => none)
  | _ :: _ => none
def isiD (tb : KTab) (x c : D) : Option Bool := match kt x with
  | none => none
  | some a => (match c with
    | .ty n => tb a (.b n)
    | .cls c => tb a (.c c)
    | .tup cs => isiA tb a cs
    | _ => none)
def isiF (tb : KTab) : List D → T D
  | [x, c] => (match isiD tb x c with
    | some b => .ret (.bl b)
    | none => .fail)
  | _ => .fail
def TbF (G : GC) (tb : KTab) : Prop := ∀ a b r, tb a b = some r → ∃ va vb, G.ktV a = some va ∧ G.ktV b = some vb ∧ PySem.W.kitOne G.K va vb = some r
theorem isiA_ok {G : GC} {tb : KTab} (hT : TbF G tb) {C : Cf} {H : Hp} {a : KT} {va : Value} (ea : G.ktV a = some va) : ∀ {vs : List V} {ds : List D} {us : List Value} {b : Bool}, RepL G C H vs ds → Vals vs us → isiA tb a ds = some b → PySem.W.kitAny G.K va us = some b
  | _, _, _, _, .nil, .nil, e => e
  | _, _, _, b, .cons (d := d) (ds := ds) r l, .cons rv t, e => by
    cases r <;> try (cases e; done)
    case ty n =>
      cases (show _ = Value.type n from rv)
      replace e : (match tb a (.b n) with | some true => some true | some false => isiA tb a ds | none => none) = some b := e
      cases q : tb a (.b n) with
      | none => rw [q] at e; cases e
      | some k =>
        obtain ⟨va', vb, e1, e2, e3⟩ := hT _ _ _ q
        rw [ea] at e1
        cases e1
        cases e2
        rw [q] at e
        refine kitAny_cons e3 (fun z => ?_) (fun z => ?_)
        · subst z; exact isiA_ok hT ea l t e
        · subst z; cases e; rfl
    case cls A c hc =>
      cases (show _ = Value.ref A from rv)
      replace e : (match tb a (.c c) with | some true => some true | some false => isiA tb a ds | none => none) = some b := e
      cases q : tb a (.c c) with
      | none => rw [q] at e; cases e
      | some k =>
        obtain ⟨va', vb, e1, e2, e3⟩ := hT _ _ _ q
        rw [ea] at e1
        cases e1
        have e2 : (G.cA c).map Value.ref = some vb := e2
        rw [hc] at e2
        cases e2
        rw [q] at e
        refine kitAny_cons e3 (fun z => ?_) (fun z => ?_)
        · subst z; exact isiA_ok hT ea l t e
        · subst z; cases e; rfl
section
variable {X : Cx} {G : GC} {W : WX} {b b1 : Bool} {tb : KTab} {e : Expr} {es : List Expr} {ml : Env → T (List D)} {p pos : Pos}
def rIsiU (G : GC) (tb : KTab) : List V → Hp → VK → Prop := fun xs H Q => ∃ C ds b, RepL G C H xs ds ∧ isiF tb ds = .ret (.bl b) ∧ Q (.bl b) H
theorem call_isiU (hk : X.K = G.K) (F : TyF G) (hT : TbF G tb) : CallR X (.builtin "isinstance") (rIsiU G tb) := by
  intro pins s σ H xs us Q I r h
  obtain ⟨C, ds, b, rl, e, q⟩ := h
  cases rl with
  | nil => cases e
  | @cons v vs d ds r1 rl =>
    cases rl with
    | nil => cases e
    | @cons v2 vs2 d2 ds2 r2 rl =>
      cases rl with
      | cons _ _ => cases e
      | nil =>
        obtain ⟨u1, u2, rfl, rv1, rv2⟩ := vals2 r
        replace e : (match isiD tb d d2 with | some b => T.ret (D.bl b) | none => .fail) = T.ret (D.bl b) := e
        cases qi : isiD tb d d2 with
        | none => rw [qi] at e; cases e
        | some k =>
          rw [qi] at e
          cases e
          unfold isiD at qi
          cases qk : kt d with
          | none => rw [qk] at qi; cases qi
          | some a =>
            rw [qk] at qi
            cases r2 <;> try (cases qi; done)
            case ty n =>
              obtain ⟨va, vb, e1, e2, e3⟩ := hT _ _ _ qi
              cases e2
              obtain ⟨P, Z, pz, hx⟩ := kit_ty hk F I rv1 r1 qk e1
              cases (show u2 = Value.type n from rv2)
              rw [← hk] at e3
              exact PySem.W.kia_one Z I.kIn pz e3 hx fun tk => ⟨.bl b, H, I.tok tk, rfl, q⟩
            case cls A c hc =>
              obtain ⟨va, vb, e1, e2, e3⟩ := hT _ _ _ qi
              have e2 : (G.cA c).map Value.ref = some vb := e2
              rw [hc] at e2
              cases e2
              obtain ⟨P, Z, pz, hx⟩ := kit_ty hk F I rv1 r1 qk e1
              cases (show u2 = Value.ref A from rv2)
              rw [← hk] at e3
              exact PySem.W.kia_one Z I.kIn pz e3 hx fun tk => ⟨.bl b, H, I.tok tk, rfl, q⟩
            case tup tp cs ds hT2 lc =>
              have hva : ∃ va, G.ktV a = some va := by
                cases r1 <;> try (cases qk; done)
                case obj f h hc l =>
                  rename_i c _ _
                  replace qk : (if c < 100 then some (KT.c c) else none) = some a := qk
                  by_cases hl : c < 100
                  · rw [if_pos hl] at qk; cases qk; exact ⟨_, by show (G.cA c).map Value.ref = _; rw [hc]; rfl⟩
                  · rw [if_neg hl] at qk; cases qk
                case exc c h hc =>
                  replace qk : (if c < 100 then none else some (KT.c c)) = some a := qk
                  by_cases hl : c < 100
                  · rw [if_pos hl] at qk; cases qk
                  · rw [if_neg hl] at qk; cases qk; exact ⟨_, by show (G.cA c).map Value.ref = _; rw [hc]; rfl⟩
                all_goals (cases qk; exact ⟨_, rfl⟩)
              obtain ⟨va, e1⟩ := hva
              obtain ⟨P, Z, pz, hx⟩ := kit_ty hk F I rv1 r1 qk e1
              cases (show u2 = Value.ref tp from rv2)
              obtain ⟨_, its, rv, o, h1, h2, n, h3⟩ := (show ObjOk X.prog X.w H s.heap tp (.tup cs) from I.hok tp _ hT2)
              obtain ⟨oc, od, dt, sl⟩ := o
              simp only at h2 h3
              subst h2 h3
              have e3 := isiA_ok hT e1 lc rv qi
              rw [← hk] at e3
              exact PySem.W.kia_tup Z I.kIn pz h1 e3 hx fun tk => ⟨.bl b, H, I.tok tk, rfl, q⟩
theorem s_isi (hk : X.K = G.K) (F : TyF G) (hT : TbF G tb) (hg : Gl X "isinstance") (hm : X.mg "isinstance" = none) (ha : PA X (e :: es) (tA G W b1 ml)) (he : starEach (e :: es) X.env = (false, eval e X.env) :: starEach es X.env := by rfl) (hpl : (backTo pos (starEach es X.env)).any (·.1) = false := by rfl) :
    PE X (.Call (.Name "isinstance" p) (e :: es) [] pos) (tQ G W false (qN (isiF tb) ml)) := by
  refine s_callB (call_isiU hk F hT) (fun σ env us C n H vs ds Q r h => ?_) hg hm (by decide +kernel) ha (by decide) (by decide) he hpl
  have z : ∃ k, isiF tb ds = .ret (.bl k) := by
    cases ds with
    | nil => exact h.no.elim
    | cons d ds =>
      cases ds with
      | nil => exact h.no.elim
      | cons d2 ds =>
        cases ds with
        | cons _ _ => exact h.no.elim
        | nil =>
          cases q : isiD tb d d2 with
          | none =>
            have h : At G W (rV G false) σ env us C n H (match isiD tb d d2 with | some b => T.ret (D.bl b) | none => .fail) Q := h
            rw [q] at h
            exact h.no.elim
          | some k => exact ⟨k, by show (match isiD tb d d2 with | some b => T.ret (D.bl b) | none => .fail) = _; rw [q]⟩
  obtain ⟨k, z⟩ := z
  rw [z] at h
  exact ⟨_, ds, k, r, z, h.ret (.bl k)⟩
end
end Pu
set_option Elab.async false
set_option linter.all false
set_option maxRecDepth 100000
set_option maxHeartbeats 4000000
namespace Pu
section
open PySem PySem.W
variable {prog : Program} {w : World} {A : Around} {E : Value → Shared → Prop} {s : Shared} {K : Frag} {x C f : Addr} {ox : Obj} {od : Option Obj} {b tb : Value}
theorem cmp_one {op : CmpOp} {Q : Value → Shared → Prop} (hu : A.units < cLine) (X : K.In s.heap) (I : InstAt s.heap x ox C od) (hb : Looks (model prog w) s.heap (typeOf b) tb) (hn : notFirst K C tb = true)
    (one : wpAny (model prog w) A (tryCompare (.ref x) (cmpInfo op).2.1 b) (fun r s' => ∃ v, r = some v ∧ Q v s') E s) : wpAny (model prog w) A (richCompare op (.ref x) b) Q E s := by
  unfold richCompare
  simp only [oneThing_ref]
  refine wpAny_holding (wpAny_bind (wpAny_cRoomFor hu ?_))
  refine wpAny_bind (I.type.here (wpAny_bind (hb.here ?_)))
  split
  · rename_i q
    have e : subIn K tb (.ref C) = some false := by
      rcases Bool.or_eq_true_iff.mp hn with e | e
      · rw [beq_iff_eq.mp e] at q; simp at q
      · exact beq_iff_eq.mp e
    refine wpAny_bind ((looks_subIn X e).here ?_)
    simp only [Bool.false_eq_true, if_false]
    refine wpAny_bind (wpAny_mono one (fun r s' z => ?_) fun _ _ e => e)
    obtain ⟨v, rfl, hq⟩ := z
    exact wpAny_pure hq
  · refine wpAny_bind (wpAny_pure ?_)
    simp only [Bool.false_eq_true, if_false]
    refine wpAny_bind (wpAny_mono one (fun r s' z => ?_) fun _ _ e => e)
    obtain ⟨v, rfl, hq⟩ := z
    exact wpAny_pure hq
end
open PySem L2 Stp NdefX
open PyProof.Rows hiding St
/-- the class at A has its own ==, told apart from these kinds -/
structure EqC (G : GC) (A g : Addr) (tys : List KT) : Prop where
  eq : PySem.W.findIn G.K (.ref A) "__eq__" = some (some (.ref g))
  fn : PySem.W.isFn G.K (.ref g) = true
  ne : PySem.W.findIn G.K (.ref A) "__ne__" = some (some (.builtin "object.__ne__"))
  ob : PySem.W.subIn G.K (.ref A) (.type "object") = some true
  nf : ∀ t ∈ tys, ∃ tv, G.ktV t = some tv ∧ PySem.W.notFirst G.K A tv = true
/-- == (or !=) of an object of class c -/
def rOE (G : GC) (tys : List KT) (c : Nat) (mf : List D → T D) (neg : Bool) : R2 := fun x y H Q => ∃ C n fs e t, Wf G C n H ∧ Rep G C H x (.obj c fs) ∧ Rep G C H y e ∧ kt e = some t ∧ t ∈ tys ∧
  (mf [.obj c fs, e]).wp n (fun d n' => ∀ C' H' v, Step [] C H C' H' → Wf G C' n' H' → Rep G C' H' v d → ∃ k, v = .bl k ∧ Q (.bl (if neg then !k else k)) H') (fun _ _ => False)
section
variable {X : Cx} {G : GC} {tys : List KT} {c k : Nat} {mf : List D → T D} {A g : Addr} {fd : FuncData} {ps : List Str}
theorem run_eq {pins : List (Addr × Obj)} {s : Shared} {σ : St} {H : Hp} {y : V} {u : Value} {a : Addr} {A' : Around} {C : Cf} {n : Nat} {fs : List (Str × D)} {e : D} {P : Bool → Hp → Prop}
    (F : FnOk X.prog X.w X.K X.mg X.base (L2.CX X.prog X.w) k g fd ["self", "other"] (spM G 2 mf)) (hr : Room k A') (hf : A'.frames = X.A.frames) (hb : Binds X.K fd ["self", "other"] []) (I : Inv X pins σ H s) (ry : RelV y u) (wf : Wf G C n H) (r1 : Rep G C H (.ref a) (.obj c fs)) (r2 : Rep G C H y e)
    (w : (mf [.obj c fs, e]).wp n (fun d n' => ∀ C' H' v, Step [] C H C' H' → Wf G C' n' H' → Rep G C' H' v d → ∃ k, v = .bl k ∧ P k H') (fun _ _ => False)) :
    wpAny (model X.prog X.w) A' (call (.ref g) [.ref a, u]) (fun v s' => ∃ k H', v = .bool k ∧ Inv X pins σ H' s' ∧ P k H') X.xe s := by
  have hsp : spM G 2 mf [.ref a, y] H (fun v H' => ∃ k, v = .bl k ∧ P k H') E0 := ⟨C, n, _, wf, .cons r1 (.cons r2 .nil), rfl, T.wp_mono w (fun _ _ _ z => z) (fun _ _ _ z => False.elim z)⟩
  have e0 : Env0 X.prog X.w X.K X.mg X.base A' X.stack s H := by
    have e := I.env0
    exact ⟨by rw [hf]; exact e.frames, e.mod, e.bs, e.bsz, e.funs, e.frf, e.hok, e.bare⟩
  have b := hb s [.ref a, u] I.kIn rfl
  refine wpAny_call (codeAny_mono (F.run A' X.stack s H ⟨[.ref a, u], []⟩ [.ref a, u] [.ref a, y] _ E0 hr e0 b (.cons rfl (.cons ry .nil)) hsp) fun r s' hq => ?_)
  cases r with
  | error e => exact False.elim (passL (X := X.nox) pins σ H s e s' (I.wish _) hq)
  | ok fl =>
    cases fl with
    | ret w =>
      obtain ⟨z, H', I', rz, k, ez, q⟩ := I.after hq
      subst ez
      cases rz
      exact ⟨k, H', rfl, I', q⟩
    | next => exact False.elim hq
    | brk => exact False.elim hq
    | cont => exact False.elim hq
theorem op_oe (hk : X.K = G.K) (TF : TyF G) (hA : G.cA c = some A) (E : EqC G A g tys) (F : FnOk X.prog X.w X.K X.mg X.base (L2.CX X.prog X.w) k g fd ["self", "other"] (spM G 2 mf)) (hr : Room (k + 1) X.A) (hb : Binds X.K fd ["self", "other"] []) : OpR X (compareOp .Eq) (rOE G tys c mf false) := by
  intro pins s σ H x y v u Q I rx ry h
  obtain ⟨C, n, fs, e, t, wf, r1, r2, et, mt, w⟩ := h
  cases r1 with
  | @obj a A2 dx _ vs _ fp hp hc l =>
    rw [hA] at hc
    cases hc
    cases (show v = Value.ref a from rx)
    obtain ⟨mA, J, _⟩ := ins_get I.hok hp
    obtain ⟨od, J, _⟩ := J.look
    obtain ⟨tv, ev, nf⟩ := E.nf t mt
    obtain ⟨P, Z, pz, hx⟩ := kit_ty hk TF I ry r2 et ev
    obtain ⟨m, hF⟩ := I.fr
    show wpAny (model X.prog X.w) X.A (richCompare .Eq (.ref a) u) (EP X pins σ Q) X.xe s
    refine PySem.W.cmp_K (op := .Eq) (tb := tv) (Room.mono hr (Nat.zero_le _)).units0 hF I.ok.mod.kin J (Z.ty _ _ I.kIn pz) (by rw [hk]; exact nf) (by rw [hk]; exact E.eq) (by rw [hk]; exact E.fn) ?_
    refine wpAny_mono (run_eq F (hr.mono (Nat.le_succ _)) rfl hb I ry wf (.obj fp hp hA l) r2 w) (fun r s' z => ?_) fun _ _ z => z
    obtain ⟨b, H', rfl, I', q⟩ := z
    exact ⟨.bl b, H', I', rfl, q⟩
theorem op_on (hk : X.K = G.K) (TF : TyF G) (hA : G.cA c = some A) (E : EqC G A g tys) (F : FnOk X.prog X.w X.K X.mg X.base (L2.CX X.prog X.w) k g fd ["self", "other"] (spM G 2 mf)) (hr : Room (k + 1) X.A) (hb : Binds X.K fd ["self", "other"] []) : OpR X (compareOp .NotEq) (rOE G tys c mf true) := by
  intro pins s σ H x y v u Q I rx ry h
  obtain ⟨C, n, fs, e, t, wf, r1, r2, et, mt, w⟩ := h
  cases r1 with
  | @obj a A2 dx _ vs _ fp hp hc l =>
    rw [hA] at hc
    cases hc
    cases (show v = Value.ref a from rx)
    obtain ⟨mA, J, _⟩ := ins_get I.hok hp
    obtain ⟨od, J, _⟩ := J.look
    obtain ⟨tv, ev, nf⟩ := E.nf t mt
    obtain ⟨P, Z, pz, hx⟩ := kit_ty hk TF I ry r2 et ev
    show wpAny (model X.prog X.w) X.A (richCompare .NotEq (.ref a) u) (EP X pins σ Q) X.xe s
    refine cmp_one (op := .NotEq) (tb := tv) (Room.mono hr (Nat.zero_le _)).units0 I.kIn J (Z.ty _ _ I.kIn pz) (by rw [hk]; exact nf) ?_
    unfold tryCompare
    refine wpAny_bind (ne_try (A := X.A) (K := X.K) (by have := hr.un; omega) I.kIn J (by rw [hk]; exact E.ne) (by rw [hk]; exact E.eq) (by rw [hk]; exact E.fn) (by rw [hk]; exact E.ob) ?_)
    refine wpAny_mono (run_eq F hr.in1 rfl hb I ry wf (.obj fp hp hA l) r2 w) (fun r s' z => ?_) fun _ _ z => z
    obtain ⟨b, H', rfl, I', q⟩ := z
    exact ⟨b, rfl, wpAny_pure ⟨_, rfl, .bl (!b), H', I', rfl, q⟩⟩
end
/-! ### == over all kinds -/
abbrev EqL := List (Nat × (List D → T D))
def EqL.look : EqL → Nat → Option (List D → T D)
  | [], _ => none
  | (k, m) :: L, c => if k = c then some m else EqL.look L c
def boolT (neg : Bool) : D → T D
  | .bl k => .ret (.bl (if neg then !k else k))
  | _ => .fail
def oeD (neg : Bool) (L : EqL) (tys : List KT) (c : Nat) (fs : List (Str × D)) (e : D) : T D := match L.look c, kt e with
  | some mf, some t => if t ∈ tys then (mf [.obj c fs, e]).noX.bind (boolT neg) else .fail
  | _, _ => .fail
def eqU (L : EqL) (tys : List KT) : D → D → T D
  | .obj c fs, e => oeD false L tys c fs e
  | d, e => eqD d e
def neU (L : EqL) (tys : List KT) : D → D → T D
  | .obj c fs, e => oeD true L tys c fs e
  | d, e => neD d e
def rOEL (G : GC) (tys : List KT) (L : EqL) (neg : Bool) : R2 := fun x y H Q => ∃ c mf, L.look c = some mf ∧ rOE G tys c mf neg x y H Q
theorem oel_nil {X : Cx} {G : GC} {tys : List KT} {neg : Bool} {f : Value → Value → Sem Value} : OpR X f (rOEL G tys [] neg) := by
  intro pins s σ H x y v u Q I rx ry h
  obtain ⟨c, mf, e, _⟩ := h
  cases e
theorem oel_cons {X : Cx} {G : GC} {tys : List KT} {neg : Bool} {f : Value → Value → Sem Value} {c : Nat} {mf : List D → T D} {L : EqL} (h1 : OpR X f (rOE G tys c mf neg)) (h2 : OpR X f (rOEL G tys L neg)) : OpR X f (rOEL G tys ((c, mf) :: L) neg) := by
  intro pins s σ H x y v u Q I rx ry h
  obtain ⟨k, m, e, h⟩ := h
  unfold EqL.look at e
  by_cases hc : c = k
  · rw [if_pos hc] at e
    cases e
    subst hc
    exact h1 pins s σ H x y v u Q I rx ry h
  · rw [if_neg hc] at e
    exact h2 pins s σ H x y v u Q I rx ry ⟨k, m, e, h⟩
section
variable {X : Cx} {G : GC} {W : WX} {ma mb : Env → T D} {a c : Expr} {pos : Pos} {L : EqL} {tys : List KT}
theorem oe_hf {neg : Bool} {σ : St} {env : Env} {us : List Addr} {C : Cf} {n : Nat} {H : Hp} {x y : V} {k : Nat} {fs : List (Str × D)} {e : D} {Q : VK} (r1 : Rep G (C.vw false) H x (.obj k fs)) (r2 : Rep G (C.vw false) H y e) (h : At G W (rV G false) σ env us C n H (oeD neg L tys k fs e) Q) : rOEL G tys L neg x y H Q := by
  unfold oeD at h
  cases q1 : L.look k with
  | none => rw [q1] at h; exact h.no.elim
  | some mf =>
    cases q2 : kt e with
    | none => rw [q1, q2] at h; exact h.no.elim
    | some t =>
      rw [q1, q2] at h
      dsimp only at h
      by_cases ht : t ∈ tys
      · rw [if_pos ht] at h
        refine ⟨k, mf, q1, C, n, fs, e, t, h.ok.wf, r1.unview, r2.unview, q2, ht, T.wp_mono (T.wp_noX (E' := fun _ _ => False) (T.wp_bind h.wp)) (fun d n' _ z C' H' v s w r => ?_) (fun _ _ _ z => False.elim z)⟩
        cases r <;> try exact False.elim z
        exact ⟨_, rfl, z C' H' _ s w (.bl _)⟩
      · rw [if_neg ht] at h; exact h.no.elim
def rEqU (G : GC) (tys : List KT) (L : EqL) : R2 := fun x y H Q => rOEL G tys L false x y H Q ∨ rEq2 G.K x y H Q
def rNeU (G : GC) (tys : List KT) (L : EqL) : R2 := fun x y H Q => rOEL G tys L true x y H Q ∨ rNe2 G.K x y H Q
theorem eqU_hf {σ : St} {env : Env} {us : List Addr} {C : Cf} {n : Nat} {H : Hp} {x y : V} {d e : D} {Q : VK} (r1 : Rep G (C.vw false) H x d) (r2 : Rep G (C.vw false) H y e) (h : At G W (rV G false) σ env us C n H (eqU L tys d e) Q) : rEqU G tys L x y H Q := by
  cases d <;> first | exact .inl (oe_hf r1 r2 h) | exact .inr (eq_hf rfl r1 r2 h)
theorem neU_hf {σ : St} {env : Env} {us : List Addr} {C : Cf} {n : Nat} {H : Hp} {x y : V} {d e : D} {Q : VK} (r1 : Rep G (C.vw false) H x d) (r2 : Rep G (C.vw false) H y e) (h : At G W (rV G false) σ env us C n H (neU L tys d e) Q) : rNeU G tys L x y H Q := by
  cases d <;> first | exact .inl (oe_hf r1 r2 h) | exact .inr (ne_hf rfl r1 r2 h)
theorem s_eqU (hk : X.K = G.K) (hu : X.A.units + 64 < cLine) (hL : OpR X (compareOp .Eq) (rOEL G tys L false)) (ha : PE X a (tQ G W false ma)) (hb : PE X c (tQ G W false mb)) : PE X (.Compare a [.Eq] [c] pos) (tQ G W false (q2 (eqU L tys) ma mb)) :=
  s_cmp (OpR.or hL (hk ▸ op_eq2 hu)) (fun σ env us C n H x y d e Q r1 r2 h => eqU_hf r1 r2 h) ha hb (nomark _)
theorem s_neU (hk : X.K = G.K) (hu : X.A.units + 64 < cLine) (hL : OpR X (compareOp .NotEq) (rOEL G tys L true)) (ha : PE X a (tQ G W false ma)) (hb : PE X c (tQ G W false mb)) : PE X (.Compare a [.NotEq] [c] pos) (tQ G W false (q2 (neU L tys) ma mb)) :=
  s_cmp (OpR.or hL (hk ▸ op_ne2 hu)) (fun σ env us C n H x y d e Q r1 r2 h => neU_hf r1 r2 h) ha hb (nomark _)
theorem t_eqU (hk : X.K = G.K) (hu : X.A.units + 64 < cLine) (hL : OpR X (compareOp .Eq) (rOEL G tys L false)) (ha : PE X a (tQ G W false ma)) (hb : PE X c (tQ G W false mb)) : PT X (.Compare a [.Eq] [c] pos) (tT G W (tb1 (q2 (eqU L tys) ma mb) truB)) :=
  t_cmp (OpR.or hL (hk ▸ op_eq2 hu)) (fun σ env us C n H x y d e Q r1 r2 h => eqU_hf r1 r2 h) ha hb (nomark _)
theorem t_neU (hk : X.K = G.K) (hu : X.A.units + 64 < cLine) (hL : OpR X (compareOp .NotEq) (rOEL G tys L true)) (ha : PE X a (tQ G W false ma)) (hb : PE X c (tQ G W false mb)) : PT X (.Compare a [.NotEq] [c] pos) (tT G W (tb1 (q2 (neU L tys) ma mb) truB)) :=
  t_cmp (OpR.or hL (hk ▸ op_ne2 hu)) (fun σ env us C n H x y d e Q r1 r2 h => neU_hf r1 r2 h) ha hb (nomark _)
end
end Pu
set_option Elab.async false
set_option linter.all false
set_option maxRecDepth 100000
set_option maxHeartbeats 4000000
namespace Pu
open PySem L2 Stp NdefX LamX
open PyProof.Rows hiding St
/-! ### a lambda's object -/
structure LamD where
  qual : Str
  params : Arguments
  body : Expr
  scope : Scope
  fr : List Str
def LamD.nf (L : LamD) (cl : List (Str × Addr)) (c' : Addr) : NF := ⟨"<lambda>", L.qual, L.params, [], L.scope, cl, c'⟩
def LamO (f : Addr) (L : LamD) (cl : List (Str × Addr)) (c' : Addr) : HO := .ext fun h => ∃ (od : Option Addr) (sl : Array (Option Value)) (pm ctv : Value), h.get? f = some (⟨.type "function", od, .func (PySem.W.kla_fn "<lambda>" L.qual L.params L.body L.scope cl pm (.ref c') ctv), sl⟩ : Obj)
theorem lamO_at {P : Program} {w : World} {H : Hp} {h : Heap} {f c' : Addr} {L : LamD} {cl : List (Str × Addr)} (hok : HOk P w H h) (e : H f = some (LamO f L cl c')) : ∃ (od : Option Addr) (sl : Array (Option Value)) (pm ctv : Value), h.get? f = some (⟨.type "function", od, .func (PySem.W.kla_fn "<lambda>" L.qual L.params L.body L.scope cl pm (.ref c') ctv), sl⟩ : Obj) := by
  obtain ⟨z, _, _⟩ := hok f _ e
  exact z
section
variable {X : Cx} {pins : List (Addr × Obj)} {σ : L2.St} {H : Hp} {s : Shared}
theorem inv_lam {L : LamD} {cl : List (Str × Addr)} {c' : Addr} {o : Obj} {t' : Nat} {pm ctv : Value} {h' : Heap} (I : Inv X pins σ H { s with heap := h' }) (ho : o = PySem.W.kla_obj "<lambda>" L.qual L.params L.body L.scope cl pm c' ctv) :
    Inv X pins σ (upd H h'.objs.size (LamO h'.objs.size L cl c')) { s with heap := h'.push o, toks := t' } := by
  subst ho
  refine Inv.laid (s := { s with heap := h' }) (t' := t') I (a := h'.objs.size) (fun b u e => Heap.get?_push_of_some _ e) (Nat.le_refl _) ?_
  have e : (h'.push (PySem.W.kla_obj "<lambda>" L.qual L.params L.body L.scope cl pm c' ctv)).get? h'.objs.size = some (PySem.W.kla_obj "<lambda>" L.qual L.params L.body L.scope cl pm c' ctv) := Heap.get?_push_size _ rfl
  exact ⟨⟨_, _, pm, ctv, e⟩, ⟨_, e⟩, fun h1 h2 ⟨od, sl, p, t, z⟩ st => ⟨od, sl, p, t, st _ z⟩⟩
theorem lam_new {T : List NTab} {nm : Nat → Nat → Str} {c P : Addr} {L : LamD} {pos : Pos} {E : Value → Shared → Prop} {Q : Value → Shared → Prop} (I : Inv X pins σ H s) (TB : TabB X.base X.mg c P) (hcode : X.env.code = .ref c) (hq : L.qual = X.env.qual ++ "<lambda>")
    (hm : (P, nm) ∈ T) (hn : nm pos.line pos.col = L.qual) (hu : ∀ p ∈ T, p.1 = P → p.2 = nm) (hT : TabsN T H) (hdef : defaultsOf L.params X.env = ([], [])) (hfree : ∀ y ∈ L.scope.names, y.2 = .free → ∃ c, X.env.cells.lookup y.1 = some c)
    (h : ∀ (f c' : Addr) (H1 : Hp) (s' : Shared), Inv X pins σ H1 s' → ExtN H H1 → (∀ b, H1 b = Option.none → H b = Option.none) → TabsN T H1 → H f = none → H1 f = some (LamO f L (cloFrom X.env.cells L.scope.names []) c') → H1 c' = some (CodeO c' L.qual) → Q (.ref f) s') :
    wpAny (model X.prog X.w) X.A (eval (.Lambda L.params L.body L.scope pos) X.env) Q E s := by
  obtain ⟨ps, hP, ht, ha⟩ := (show TabN H P nm from hT _ hm)
  refine PySem.W.kla_eval hdef ?_
  have bP : s.heap.BuiltinsAt X.mg P := TB.bm.keeps I.bk
  have hP' : s.heap.get? P = some { cls := .none, data := .fields ps } := I.hok P _ hP
  cases hc : codeAmong pos ps.toList with
  | none =>
    refine PySem.W.kla_makeFunction (mg := X.mg) (c := c) (P := P) (ps := ps) (closure_ok hfree) I.ok.glob (I.mod.glob.keeps I.bk) hcode (TB.code.keeps I.bk) hP' ht hc TB.gP bP fun c' ctv h' tk hx hge hlt hrec htb => ?_
    rw [← hq]
    obtain ⟨c2, oc, vs, t, e2, hoc, hd, hv⟩ := hrec
    rw [← hq] at hv
    cases e2
    have nC : H c' = none := I.hok.fresh hge
    have I1 := inv_table (q := L.qual) (t' := tk) (more := #[rawInt pos.line, rawInt pos.col, .ref c']) (h' := h') I hP (fun b o hb e => hx b o hb e) htb hge ⟨oc, vs, t, hoc, hd, hv⟩
    have hE : ExtN H (upd (upd H P (.tbl (ps ++ #[rawInt pos.line, rawInt pos.col, .ref c']))) c' (CodeO c' L.qual)) := fun b o e n => by
      rw [upd_ne (ne_of_none e nC), upd_ne (fun z => n ps (Option.some.inj (e.symm.trans (by rw [z]; exact hP))))]
      exact e
    have eL : (ps ++ #[rawInt pos.line, rawInt pos.col, .ref c']).toList = ps.toList ++ [rawInt pos.line, rawInt pos.col, .ref c'] := by simp
    have T1 : TabsN T (upd (upd H P (.tbl (ps ++ #[rawInt pos.line, rawInt pos.col, .ref c']))) c' (CodeO c' L.qual)) := fun p hp => by
      by_cases hb : p.1 = P
      · rw [hu p hp hb, hb]
        refine ⟨_, by rw [upd_ne (ne_of_none hP nC), upd_same], by rw [eL]; exact PySem.TriplesOk_snoc _ _ _ _ ht, fun p' cv hcv => ?_⟩
        rw [eL] at hcv
        rcases among_app2 _ ht hcv with z | ⟨z, z1, z2⟩
        · obtain ⟨c0, e1, e2⟩ := ha p' cv z
          exact ⟨c0, e1, hE _ _ e2 codeO_ne⟩
        · refine ⟨c', z, ?_⟩
          rw [← z1, ← z2, hn]
          exact upd_same
      · obtain ⟨ps', a1, a2, a3⟩ := hT p hp
        refine ⟨ps', by rw [upd_ne (ne_of_none a1 nC), upd_ne hb]; exact a1, a2, fun p' cv hcv => ?_⟩
        obtain ⟨c0, e1, e2⟩ := a3 p' cv hcv
        exact ⟨c0, e1, hE _ _ e2 codeO_ne⟩
    have nF : upd (upd H P (.tbl (ps ++ #[rawInt pos.line, rawInt pos.col, .ref c']))) c' (CodeO c' L.qual) h'.objs.size = none := I1.hok.fresh (Nat.le_refl _)
    have I2 := inv_lam (s := { s with toks := tk }) (L := L) (cl := cloFrom X.env.cells L.scope.names []) (c' := c') (t' := tk) (pm := (X.mg "__name__").getD .none) (ctv := ctv) I1 rfl
    refine h h'.objs.size c' _ _ I2 (fun b o e n => ?_) (fun b e => upd_none (upd_none (upd_none e))) (T1.ext fun b o e => ?_) (I.hok.fresh (Nat.le_trans hge (Nat.le_of_lt hlt))) upd_same ?_
    · have e1 := hE b o e n
      exact (upd_ne (ne_of_none e1 nF)).trans e1
    · exact (upd_ne (ne_of_none e nF)).trans e
    · exact (upd_ne (Nat.ne_of_lt hlt)).trans upd_same
  | some cv =>
    obtain ⟨c', e, hco⟩ := ha pos cv hc
    subst e
    rw [hn] at hco
    refine PySem.W.kla_makeFunctionHit (mg := X.mg) (c := c) (P := P) (ps := ps) (closure_ok hfree) I.ok.glob (I.mod.glob.keeps I.bk) hcode (TB.code.keeps I.bk) hP' ht hc bP fun ctv h' tk hx hsz => ?_
    rw [← hq]
    have I1 : Inv X pins σ H { s with heap := h', toks := tk } := I.kept hx
    have nF : H h'.objs.size = none := I1.hok.fresh (Nat.le_refl _)
    have I2 := inv_lam (s := { s with toks := tk }) (L := L) (cl := cloFrom X.env.cells L.scope.names []) (c' := c') (t' := tk) (pm := (X.mg "__name__").getD .none) (ctv := ctv) I1 rfl
    refine h h'.objs.size c' _ _ I2 (fun b o e n => ?_) (fun b e => upd_none e) (hT.ext fun b o e => ?_) nF upd_same ?_
    · exact (upd_ne (ne_of_none e nF)).trans e
    · exact (upd_ne (ne_of_none e nF)).trans e
    · exact (upd_ne (ne_of_none hco nF)).trans hco
end
/-! ### cells that are known -/
def CellX (c : Addr) (o : Obj) : HO := .ext fun h => h.get? c = some o
theorem cellX_ok {P : Program} {w : World} {H : Hp} {h : Heap} {c : Addr} {o : Obj} (e : h.get? c = some o) : ObjOk P w H h c (CellX c o) := ⟨e, ⟨o, e⟩, fun _ _ e st => st _ e⟩
theorem cellX_at {P : Program} {w : World} {H : Hp} {h : Heap} {c : Addr} {o : Obj} (hok : HOk P w H h) (e : H c = some (CellX c o)) : h.get? c = some o := by
  obtain ⟨z, _⟩ := hok c _ e
  exact z
abbrev CL := List (Addr × Obj)
/-- with the cells known / without -/
def msk (H : Hp) (cs : CL) : Hp := fun a => match cs.lookup a with
  | some o => some (CellX a o)
  | none => H a
def unm (H : Hp) (cs : CL) : Hp := fun a => match cs.lookup a with
  | some _ => none
  | none => H a
section
variable {H H' : Hp} {cs : CL} {a : Addr} {o : HO} {ob : Obj}
theorem msk_in (e : cs.lookup a = some ob) : msk H cs a = some (CellX a ob) := by unfold msk; rw [e]
theorem msk_out (e : cs.lookup a = none) : msk H cs a = H a := by unfold msk; rw [e]
theorem unm_in (e : cs.lookup a = some ob) : unm H cs a = none := by unfold unm; rw [e]
theorem unm_out (e : cs.lookup a = none) : unm H cs a = H a := by unfold unm; rw [e]
theorem unm_some (e : unm H cs a = some o) : cs.lookup a = none ∧ H a = some o := by
  cases q : cs.lookup a with
  | none => rw [unm_out q] at e; exact ⟨rfl, e⟩
  | some ob => rw [unm_in q] at e; cases e
end
/-- all of cs are known in H -/
def Kn (H : Hp) (cs : CL) : Prop := ∀ a o, cs.lookup a = some o → H a = some (CellX a o)
def Un0 (H : Hp) (cs : CL) : Prop := ∀ a o, cs.lookup a = some o → H a = none
section
variable {P : Program} {w : World} {H H' : Hp} {h h' : Heap} {cs : CL} {fs : List Addr}
theorem Kn.out (k : Kn H cs) {a : Addr} {o : HO} (e : H a = some o) (ne : ∀ φ, o ≠ .ext φ) : cs.lookup a = none := by
  cases q : cs.lookup a with
  | none => rfl
  | some ob =>
    rw [k a ob q] at e
    cases e
    exact absurd rfl (ne _)
theorem Un0.out (k : Un0 H cs) {a : Addr} {o : HO} (e : H a = some o) : cs.lookup a = none := by
  cases q : cs.lookup a with
  | none => rfl
  | some ob => rw [k a ob q] at e; cases e
theorem hok_unm (hok : HOk P w H h) (k : Kn H cs) : HOk P w (unm H cs) h := fun a o e => by
  obtain ⟨q, e⟩ := unm_some e
  exact (hok a o e).stay (fun _ _ _ z => z) (fun b z => by rw [unm_out (k.out z fun _ z => by cases z)]; exact z) (fun b xs z => by rw [unm_out (k.out z fun _ z => by cases z)]; exact z)
theorem hok_msk (hok : HOk P w H h) (k : Un0 H cs) (hc : ∀ a o, cs.lookup a = some o → h.get? a = some o) : HOk P w (msk H cs) h := fun a o e => by
  cases q : cs.lookup a with
  | some ob =>
    rw [msk_in q] at e
    cases e
    exact cellX_ok (hc a ob q)
  | none =>
    rw [msk_out q] at e
    exact (hok a o e).stay (fun _ _ _ z => z) (fun b z => by rw [msk_out (k.out z)]; exact z) (fun b xs z => by rw [msk_out (k.out z)]; exact z)
/-- a call with the cells known, read without -/
theorem un_of_msk (un : Un fs [] (msk H cs) H' h h') (k0 : Un0 H cs) (hc : ∀ a o, cs.lookup a = some o → h.get? a = some o) (k' : Kn H' cs) (hok : HOk P w H' h') : Un fs [] H (unm H' cs) h h' := by
  have kc : ∀ a o, cs.lookup a = some o → h'.get? a = some o := fun a o e => cellX_at hok (k' a o e)
  refine ⟨fun b o e n hb hx => ?_, fun b o e n hb hx => ?_, fun b o e n hx => ?_, un.there, fun b xs e => ?_, fun b o u e => ?_, fun b ps e => ?_⟩
  · cases q : cs.lookup b with
    | some ob =>
      have z := hc b ob q
      rw [e] at z
      cases z
      exact kc b o q
    | none => exact un.keep b o e (by rw [msk_out q]; exact n) hb hx
  · cases q : cs.lookup b with
    | some ob =>
      have z := hc b ob q
      rw [e] at z
      cases z
      exact ⟨o.slots, kc b o q⟩
    | none => exact un.slot b o e (by rw [msk_out q]; exact n) hb hx
  · cases q : cs.lookup b with
    | some ob => exact unm_in q
    | none => rw [unm_out q]; exact un.free b o e (by rw [msk_out q]; exact n) hx
  · have q := k0.out e
    rw [unm_out q]
    exact un.tups b xs (by rw [msk_out q]; exact e)
  · have q := k0.out e
    rw [unm_out q]
    exact un.frzs b o u (by rw [msk_out q]; exact e)
  · have q := k0.out e
    rw [unm_out q]
    exact un.tbls b ps (by rw [msk_out q]; exact e)
/-- a call without the cells, read with them -/
theorem un_of_unm (un : Un fs [] (unm H cs) H' h h') (k : Kn H cs) : Un fs [] H (msk H' cs) h h' := by
  have nn : ∀ b, H b = none → cs.lookup b = none := fun b n => by
    cases q : cs.lookup b with
    | none => rfl
    | some ob => rw [k b ob q] at n; cases n
  refine ⟨fun b o e n hb hx => un.keep b o e (by rw [unm_out (nn b n)]; exact n) hb hx, fun b o e n hb hx => un.slot b o e (by rw [unm_out (nn b n)]; exact n) hb hx, fun b o e n hx => ?_, un.there, fun b xs e => ?_, fun b o u e => ?_, fun b ps e => ?_⟩
  · rw [msk_out (nn b n)]
    exact un.free b o e (by rw [unm_out (nn b n)]; exact n) hx
  · have q := k.out e fun _ z => by cases z
    rw [msk_out q]
    exact un.tups b xs (by rw [unm_out q]; exact e)
  · have q := k.out e fun _ z => by cases z
    rw [msk_out q]
    exact un.frzs b o u (by rw [unm_out q]; exact e)
  · have q := k.out e fun _ z => by cases z
    rw [msk_out q]
    exact un.tbls b ps (by rw [unm_out q]; exact e)
end
end Pu
set_option Elab.async false
set_option linter.all false
set_option maxRecDepth 100000
set_option maxHeartbeats 4000000
namespace Pu
open PySem L2 Stp NdefX LamX
open PyProof.Rows hiding St
section
variable {P : Program} {w : World} {H H' : Hp} {cs : CL} {outer : List PySem.Env} {s s' : Shared} {E E2 : XK} {u : Value}
theorem cx_of_msk (c : L2.CX P w outer (msk H cs) s E u s') (k0 : Un0 H cs) (hc : ∀ a o, cs.lookup a = some o → s.heap.get? a = some o) (hE : ∀ cls d H' B, HOk P w H' B → E cls d H' → Kn H' cs ∧ E2 cls d (unm H' cs)) : L2.CX P w outer H s E2 u s' := by
  obtain ⟨a, B, H', cls, d, hu, fl, hok, ub, na, os, ag, e⟩ := c
  obtain ⟨k', e2⟩ := hE _ _ _ B hok e
  have kc : ∀ a o, cs.lookup a = some o → B.get? a = some o := fun a o e => cellX_at hok (k' a o e)
  refine ⟨a, B, unm H' cs, cls, d, hu, fl, hok_unm hok k', ⟨fun b o e n hb => ?_, ub.slot, fun b o e n => ?_, ub.there, fun b xs e => ?_, fun b o u e => ?_, fun b ps e => ?_⟩, ?_, os, ag, e2⟩
  · cases q : cs.lookup b with
    | some ob =>
      have z := hc b ob q
      rw [e] at z
      cases z
      exact kc b o q
    | none => exact ub.keep b o e (by rw [msk_out q]; exact n) hb
  · cases q : cs.lookup b with
    | some ob => exact unm_in q
    | none => rw [unm_out q]; exact ub.free b o e (by rw [msk_out q]; exact n)
  · have q := k0.out e
    rw [unm_out q]
    exact ub.tups b xs (by rw [msk_out q]; exact e)
  · have q := k0.out e
    rw [unm_out q]
    exact ub.frzs b o u (by rw [msk_out q]; exact e)
  · have q := k0.out e
    rw [unm_out q]
    exact ub.tbls b ps (by rw [msk_out q]; exact e)
  · cases q : cs.lookup a with
    | some ob => exact unm_in q
    | none => rw [unm_out q]; exact na
theorem cx_of_unm (c : L2.CX P w outer (unm H cs) s E u s') (k : Kn H cs) (hok0 : HOk P w H s.heap) (hf : ∀ a o, cs.lookup a = some o → a ∉ frs outer) (hE : ∀ cls d H', Un0 H' cs → E cls d H' → E2 cls d (msk H' cs)) : L2.CX P w outer H s E2 u s' := by
  obtain ⟨a, B, H', cls, d, hu, fl, hok, ub, na, os, ag, e⟩ := c
  have nn : ∀ b, H b = none → cs.lookup b = none := fun b n => by
    cases q : cs.lookup b with
    | none => rfl
    | some ob => rw [k b ob q] at n; cases n
  have k0 : Un0 H' cs := fun b ob q => ub.free b ob (cellX_at hok0 (k b ob q)) (unm_in q)
  have kc : ∀ a o, cs.lookup a = some o → B.get? a = some o := fun b ob q => ub.keep b ob (cellX_at hok0 (k b ob q)) (unm_in q) (hf b ob q)
  refine ⟨a, B, msk H' cs, cls, d, hu, fl, hok_msk hok k0 kc, ⟨fun b o e n hb => ub.keep b o e (by rw [unm_out (nn b n)]; exact n) hb, ub.slot, fun b o e n => ?_, ub.there, fun b xs e => ?_, fun b o u e => ?_, fun b ps e => ?_⟩, ?_, os, ag, hE _ _ _ k0 e⟩
  · rw [msk_out (nn b n)]
    exact ub.free b o e (by rw [unm_out (nn b n)]; exact n)
  · have q := k.out e fun _ z => by cases z
    rw [msk_out q]
    exact ub.tups b xs (by rw [unm_out q]; exact e)
  · have q := k.out e fun _ z => by cases z
    rw [msk_out q]
    exact ub.frzs b o u (by rw [unm_out q]; exact e)
  · have q := k.out e fun _ z => by cases z
    rw [msk_out q]
    exact ub.tbls b ps (by rw [unm_out q]; exact e)
  · cases q : cs.lookup a with
    | some ob =>
      have z := kc a ob q
      rw [fl.2.1] at z
      cases z
    | none => rw [msk_out q]; exact na
end
/-! ### plain trees: no functions, no exceptions in them -/
mutual
def plainD : D → Bool
  | .tup xs => plainL xs
  | .lst xs => plainL xs
  | .wt xs => plainL xs
  | .dK kvs => plainK kvs
  | .dT kvs => plainT kvs
  | .obj _ fs => plainF fs
  | .exc _ _ => false
  | .fn _ _ => false
  | _ => true
def plainL : List D → Bool
  | [] => true
  | d :: ds => plainD d && plainL ds
def plainK : List (Key × D) → Bool
  | [] => true
  | (_, d) :: ds => plainD d && plainK ds
def plainT : List (List Key × D) → Bool
  | [] => true
  | (_, d) :: ds => plainD d && plainT ds
def plainF : List (Str × D) → Bool
  | [] => true
  | (_, d) :: ds => plainD d && plainF ds
end
/-- what plain trees lean on stays -/
structure Px (C C' : Cf) (H H' : Hp) : Prop where
  fk : ∀ a o, C.F a → H a = some o → noTbl o → (∀ φ, o ≠ .ext φ) → C'.F a ∧ H' a = some o
  tp : ∀ a xs, H a = some (.tup xs) → H' a = some (.tup xs)
  fp : ∀ a o u, H a = some (.frz o u) → H' a = some (.frz o u)
  pn : ∀ q, C.pen = some q → C'.pen = some q
section
variable {G : GC} {C C' : Cf} {H H' : Hp}
mutual
theorem Rep.px (n : Px C C' H H') : ∀ {v : V} {d : D}, Rep G C H v d → plainD d = true → Rep G C' H' v d
  | _, _, .non, _ => .non
  | _, _, .bl b, _ => .bl b
  | _, _, .int i, _ => .int i
  | _, _, .str x, _ => .str x
  | _, _, .tup h l, p => .tup (n.tp _ _ h) (RepL.px n l p)
  | _, _, .wt h l, p => .wt h (RepL.px n l p)
  | _, _, .lst f h l, p => .lst (n.fk _ _ f h (fun _ z => nomatch z) (fun _ z => nomatch z)).1 (n.fk _ _ f h (fun _ z => nomatch z) (fun _ z => nomatch z)).2 (RepL.px n l p)
  | _, _, .dK f h l, p => .dK (n.fk _ _ f h (fun _ z => nomatch z) (fun _ z => nomatch z)).1 (n.fk _ _ f h (fun _ z => nomatch z) (fun _ z => nomatch z)).2 (RepK.px n l p)
  | _, _, .dT f h l, p => .dT (n.fk _ _ f h (fun _ z => nomatch z) (fun _ z => nomatch z)).1 (n.fk _ _ f h (fun _ z => nomatch z) (fun _ z => nomatch z)).2 (RepT.px n l p)
  | _, _, .obj f h c l, p => .obj (n.fk _ _ f h (fun _ z => nomatch z) (fun _ z => nomatch z)).1 (n.fk _ _ f h (fun _ z => nomatch z) (fun _ z => nomatch z)).2 c (RepF.px n l p)
  | _, _, .exc h c, p => by cases p
  | _, _, .fn h l, p => by cases p
  | _, _, .ty x, _ => .ty x
  | _, _, .cls c, _ => .cls c
  | _, _, .pen h, _ => .pen (n.pn _ h)
  | _, _, .scr ⟨o, h⟩, _ => .scr ⟨o, n.fp _ _ _ h⟩
theorem RepL.px (n : Px C C' H H') : ∀ {v : List V} {d : List D}, RepL G C H v d → plainL d = true → RepL G C' H' v d
  | _, _, .nil, _ => .nil
  | _, _, .cons (d := d) (ds := ds) h l, p => by
    have p : (plainD d && plainL ds) = true := p
    rw [Bool.and_eq_true] at p
    exact .cons (Rep.px n h p.1) (RepL.px n l p.2)
theorem RepK.px (n : Px C C' H H') : ∀ {v : List (Key × V)} {d : List (Key × D)}, RepK G C H v d → plainK d = true → RepK G C' H' v d
  | _, _, .nil, _ => .nil
  | _, _, .cons (d := d) (ds := ds) h l, p => by
    have p : (plainD d && plainK ds) = true := p
    rw [Bool.and_eq_true] at p
    exact .cons (Rep.px n h p.1) (RepK.px n l p.2)
theorem RepT.px (n : Px C C' H H') : ∀ {v : List (List Key × V)} {d : List (List Key × D)}, RepT G C H v d → plainT d = true → RepT G C' H' v d
  | _, _, .nil, _ => .nil
  | _, _, .cons (d := d) (ds := ds) h l, p => by
    have p : (plainD d && plainT ds) = true := p
    rw [Bool.and_eq_true] at p
    exact .cons (Rep.px n h p.1) (RepT.px n l p.2)
theorem RepF.px (n : Px C C' H H') : ∀ {v : List (Str × V)} {d : List (Str × D)}, RepF G C H v d → plainF d = true → RepF G C' H' v d
  | _, _, .nil, _ => .nil
  | _, _, .cons (d := d) (ds := ds) h l, p => by
    have p : (plainD d && plainF ds) = true := p
    rw [Bool.and_eq_true] at p
    exact .cons (Rep.px n h p.1) (RepF.px n l p.2)
end
end
/-! ### closures as values -/
/-- what a closure's cells hold, all of them known: cs are the cells -/
structure CellsT (cl : List (Str × Addr)) (fr : List Str) (vs : List V) (H : Hp) (cs : CL) : Prop where
  len : vs.length = fr.length
  inj : ∀ x y c, cl.lookup x = some c → cl.lookup y = some c → x = y
  kn : Kn H cs
  all : ∀ y c, cl.lookup y = some c → ∃ o v, cs.lookup c = some o ∧ o.data = .cell v
  has : ∀ (i : Nat) (y : Str), fr[i]? = some y → ∃ c, cl.lookup y = some c ∧ ∀ v, vs[i]? = some v → ∃ u o, L2.RelV v u ∧ cs.lookup c = some o ∧ o.data = .cell (some u)
  cel : ∀ c o, cs.lookup c = some o → ∃ v, o.data = .cell v
def fnPof (LT : Nat → Option LamD) (id : Nat) (f : Addr) (H : Hp) (vs : List V) : Prop := ∃ L cl c' cs, LT id = some L ∧ H f = some (LamO f L cl c') ∧ H c' = some (CodeO c' L.qual) ∧ CellsT cl L.fr vs H cs
theorem fnS_of (LT : Nat → Option LamD) : ∀ id f H H' vs, fnPof LT id f H vs → (∀ a φ, H a = some (.ext φ) → H' a = some (.ext φ)) → fnPof LT id f H' vs := by
  rintro id f H H' vs ⟨L, cl, c', cs, h1, h2, h3, h4⟩ k
  exact ⟨L, cl, c', cs, h1, k _ _ h2, k _ _ h3, ⟨h4.len, h4.inj, fun a o e => k _ _ (h4.kn a o e), h4.all, h4.has, h4.cel⟩⟩
/-- the context has closures by this table -/
structure GF (G : GC) (LT : Nat → Option LamD) : Prop where
  fn : ∀ id f H vs, G.fnP id f H vs ↔ fnPof LT id f H vs
/-- frozen things without the cells -/
def Cf.noC (C : Cf) (cs : CL) : Cf := ⟨fun a => C.F a ∧ cs.lookup a = none, C.pen, C.me⟩
def Cf.plus (C C' : Cf) : Cf := ⟨fun a => C.F a ∨ C'.F a, C.pen, C.me⟩
theorem px_unm {C : Cf} {H : Hp} {cs : CL} (k : Kn H cs) : Px C (C.noC cs) H (unm H cs) := by
  have q : ∀ a o, H a = some o → (∀ φ, o ≠ .ext φ) → unm H cs a = some o := fun a o e n => by rw [unm_out (k.out e n)]; exact e
  exact ⟨fun a o f e _ n => ⟨⟨f, k.out e n⟩, q a o e n⟩, fun a xs e => q a _ e fun _ z => (by cases z), fun a o u e => q a _ e fun _ z => (by cases z), fun _ h => h⟩
/-- a closure's promise -/
def LOk (P : Program) (w : World) (K : PySem.W.Frag) (mg : Str → Option Value) (base : Heap) (G : GC) (k id np : Nat) (m : List D → List D → T D) : Prop :=
  ∀ (A : Around) (outer : List PySem.Env) (s : Shared) (H : Hp) (C : Cf) (n : Nat) (f : Addr) (vs ws : List V) (cs ds : List D) (us : List Value) (Q : VK) (E : XK), Room k A → Env0 P w K mg base A outer s H → G.fnP id f H vs → RepL G C H vs cs → Wf G C n H → Vals ws us → RepL G C H ws ds →
    plainL cs = true → plainL ds = true → ds.length = np → (m cs ds).wp n (fun d n' => ∀ C' H' v, Step [] C H C' H' → Wf G C' n' H' → Rep G C' H' v d → Q v H') (fun e n' => ∀ C' H' cls dx, Step [] C H C' H' → Wf G C' n' H' → RepX G cls dx e → E cls dx H') →
    codeAny (model P w) A (.call (.ref f) ⟨us, []⟩) (CR (L2.CX P w) outer P w H s Q E) s
/-- how a lambda runs -/
def runL (nN : Nat) (m : Env → T D) (cs ds : List D) : T D := m (startE nN (ds ++ cs))
section
variable {P : Program} {w : World} {K : PySem.W.Frag} {mg : Str → Option Value} {base : Heap} {G : GC} {LT : Nat → Option LamD} {N ps : List Str} {L : LamD} {k id : Nat} {m : Env → T D}
theorem not_code {H : Hp} {h : Heap} (hok : HOk P w H h) {c : Addr} {o : Obj} {v : Option Value} {q : Str} (e : H c = some (CellX c o)) (ed : o.data = .cell v) (e2 : H c = some (CodeO c q)) : False := by
  have h1 := cellX_at hok e
  obtain ⟨⟨oc, vs, t, h2, h3, _⟩, _⟩ := hok c _ e2
  rw [h1] at h2
  cases h2
  rw [ed] at h3
  cases h3
theorem not_lam {H : Hp} {h : Heap} (hok : HOk P w H h) {c c' : Addr} {o : Obj} {v : Option Value} {cl : List (Str × Addr)} (e : H c = some (CellX c o)) (ed : o.data = .cell v) (e2 : H c = some (LamO c L cl c')) : False := by
  have h1 := cellX_at hok e
  obtain ⟨_, _, _, _, h2⟩ := lamO_at hok e2
  rw [h1] at h2
  cases h2
  cases ed
theorem wf_unm {C : Cf} {n : Nat} {H : Hp} {cs : CL} {h : Heap} (hok : HOk P w H h) (wf : Wf G C n H) (k : Kn H cs) (cel : ∀ c o, cs.lookup c = some o → ∃ v, o.data = .cell v) : Wf G (C.noC cs) n (unm H cs) := by
  refine ⟨fun p c e => ?_, fun a h => ?_, fun p hp => ?_⟩
  · obtain ⟨xs, i, r, ⟨h1, h2, h3⟩, h4⟩ := wf.pen p c e
    exact ⟨xs, i, r, ⟨by rw [unm_out (k.out h1 fun _ z => by cases z)]; exact h1, by rw [unm_out (k.out h2 fun _ z => by cases z)]; exact h2, h3⟩, h4⟩
  · obtain ⟨⟨o, e, t⟩, np⟩ := wf.fz a h.1
    exact ⟨⟨o, by rw [unm_out h.2]; exact e, t⟩, np⟩
  · obtain ⟨qs, h1, h2, h3⟩ := wf.tab p hp
    refine ⟨qs, by rw [unm_out (k.out h1 fun _ z => by cases z)]; exact h1, h2, fun pos cv hc => ?_⟩
    obtain ⟨c, e1, e2⟩ := h3 pos cv hc
    refine ⟨c, e1, ?_⟩
    cases q : cs.lookup c with
    | none => rw [unm_out q]; exact e2
    | some o =>
      obtain ⟨v, ed⟩ := cel c o q
      exact (not_code hok (k c o q) ed e2).elim
theorem step_msk {C C' : Cf} {H H' : Hp} {cs : CL} (k : Kn H cs) (s : Step [] (C.noC cs) (unm H cs) C' H') (k0 : Un0 H' cs) {n' : Nat} (wf : Wf G C' n' H') : Step [] C H (C'.plus ⟨fun a => C.F a ∧ (cs.lookup a).isSome = true, none, none⟩) (msk H' cs) := by
  have at_ : ∀ a o, H a = some o → noTbl o → a ∉ C.pa → msk H' cs a = some o := fun a o e t np => by
    cases q : cs.lookup a with
    | some ob =>
      rw [msk_in q]
      rw [k a ob q] at e
      exact e
    | none =>
      rw [msk_out q]
      exact s.kp a o (by rw [unm_out q]; exact e) t (by simp) np
  have ex : ∀ a o, H a = some o → (∀ φ, o ≠ .ext φ) → ∀ o', H' a = some o' → msk H' cs a = some o' := fun a o e n o' e' => by rw [msk_out (k.out e n)]; exact e'
  refine ⟨fun a o e t _ np => at_ a o e t np, fun a o e => ?_, ⟨fun a o f e t => ?_, fun a xs e => ?_, fun a o u e => ?_, fun a φ e => ?_, s.nx.pn⟩, fun a h => ?_, fun a h => ?_, s.me⟩
  · cases q : cs.lookup a with
    | some ob => exact ⟨_, msk_in q⟩
    | none =>
      obtain ⟨o', e'⟩ := s.al a o (by rw [unm_out q]; exact e)
      exact ⟨o', by rw [msk_out q]; exact e'⟩
  · cases q : cs.lookup a with
    | some ob =>
      refine ⟨.inr ⟨f, by rw [q]; rfl⟩, ?_⟩
      rw [msk_in q]
      rw [k a ob q] at e
      exact e
    | none =>
      have z := s.nx.fk a o ⟨f, q⟩ (by rw [unm_out q]; exact e) t
      exact ⟨.inl z.1, by rw [msk_out q]; exact z.2⟩
  · have q := k.out e fun _ z => by cases z
    rw [msk_out q]
    exact s.nx.tp a xs (by rw [unm_out q]; exact e)
  · have q := k.out e fun _ z => by cases z
    rw [msk_out q]
    exact s.nx.fp a o u (by rw [unm_out q]; exact e)
  · cases q : cs.lookup a with
    | some ob =>
      rw [msk_in q]
      rw [k a ob q] at e
      exact e
    | none =>
      rw [msk_out q]
      exact s.nx.xp a φ (by rw [unm_out q]; exact e)
  · rcases h with h | h
    · rcases s.fn a h with z | z | z
      · exact .inl z.1
      · cases z
      · cases q : cs.lookup a with
        | some ob =>
          obtain ⟨⟨o, e, _⟩, _⟩ := wf.fz a h
          rw [k0 a ob q] at e
          cases e
        | none => rw [unm_out q] at z; exact .inr (.inr z)
    · exact .inl h.1
  · rcases s.pf a h with z | z
    · exact .inl z
    · cases q : cs.lookup a with
      | some ob => exact absurd h (wf.pne (k0 a ob q))
      | none => rw [unm_out q] at z; exact .inr z
theorem wf_msk {C C' : Cf} {n : Nat} {H : Hp} {cs : CL} (wf : Wf G C' n H) (k0 : Un0 H cs) : Wf G (C'.plus ⟨fun a => C.F a ∧ (cs.lookup a).isSome = true, none, none⟩) n (msk H cs) := by
  refine ⟨fun p c e => ?_, fun a h => ?_, fun p hp => ?_⟩
  · obtain ⟨xs, i, r, ⟨h1, h2, h3⟩, h4⟩ := wf.pen p c e
    exact ⟨xs, i, r, ⟨by rw [msk_out (k0.out h1)]; exact h1, by rw [msk_out (k0.out h2)]; exact h2, h3⟩, h4⟩
  · rcases h with h | ⟨_, h⟩
    · obtain ⟨⟨o, e, t⟩, np⟩ := wf.fz a h
      exact ⟨⟨o, by rw [msk_out (k0.out e)]; exact e, t⟩, np⟩
    · obtain ⟨o, q⟩ := Option.isSome_iff_exists.mp h
      exact ⟨⟨_, msk_in q, fun _ z => by cases z⟩, wf.pne (k0 a o q)⟩
  · exact (wf.tab p hp).ext fun b o e => by rw [msk_out (k0.out e)]; exact e
theorem nx_msk {C C' : Cf} {H : Hp} {cs : CL} (k0 : Un0 H cs) : Nx C' (C'.plus ⟨fun a => C.F a ∧ (cs.lookup a).isSome = true, none, none⟩) H (msk H cs) := by
  have q : ∀ a o, H a = some o → msk H cs a = some o := fun a o e => by rw [msk_out (k0.out e)]; exact e
  exact ⟨fun a o f e _ => ⟨.inl f, q a o e⟩, fun a xs e => q a _ e, fun a o u e => q a _ e, fun a φ e => q a _ e, fun _ h => h⟩
theorem lok_of (gf : GF G LT) (hL : LT id = some L) (S : NScope N ps L.fr L.scope) (hb : ∀ (cl : List (Str × Addr)) (pm ctv : Value) (c' : Addr) (us : List Value), us.length = ps.length → bindArgs (PySem.W.kla_fn "<lambda>" L.qual L.params L.body L.scope cl pm (.ref c') ctv) ⟨us, []⟩ = pure (ps.zip us))
    (hbody : ∀ (A : Around) (outer : List PySem.Env) (s : Shared) (H : Hp) (E : XK) (f c' : Addr) (cl : List (Str × Addr)), Room k (A.deeper (envF (L.nf cl c') f s.heap.objs.size)) → PE (ncx (L2.CX P w) P w K mg base N (L.nf cl c') f A outer s H E) L.body (tQ G (fun cls d _ H => E cls d H) false m)) :
    LOk P w K mg base G (k + 1) id ps.length (runL N.length m) := by
  intro A outer s H C n f vs ws cs ds us Q E hr e0 hfn rc wf rv rd pc pd hl hw
  obtain ⟨L', cl, c', cells, e1, e2, e3, CT⟩ := (gf.fn _ _ _ _).mp hfn
  rw [hL] at e1
  cases e1
  have kn := CT.kn
  have of_ : cells.lookup f = none := by
    cases q : cells.lookup f with
    | none => rfl
    | some o =>
      obtain ⟨v, ed⟩ := CT.cel f o q
      exact (not_lam e0.hok (kn f o q) ed e2).elim
  have oc_ : cells.lookup c' = none := by
    cases q : cells.lookup c' with
    | none => rfl
    | some o =>
      obtain ⟨v, ed⟩ := CT.cel c' o q
      exact (not_code e0.hok (kn c' o q) ed e3).elim
  have nn : ∀ b, H b = none → unm H cells b = none := fun b e => by
    cases q : cells.lookup b with
    | none => rw [unm_out q]; exact e
    | some o => exact unm_in q
  have hoku : HOk P w (unm H cells) s.heap := hok_unm e0.hok kn
  have e0u : Env0 P w K mg base A outer s (unm H cells) := ⟨e0.frames, e0.mod, fun b o e => ⟨(e0.bs b o e).1, nn b (e0.bs b o e).2⟩, e0.bsz, e0.funs, fun b hb => nn b (e0.frf b hb), hoku, e0.bare⟩
  have hfu : unm H cells f = some (LamO f L cl c') := by rw [unm_out of_]; exact e2
  have hcu : unm H cells c' = some (CodeO c' L.qual) := by rw [unm_out oc_]; exact e3
  have CA : CellsAt (L.nf cl c').cl L.fr (vs.map some) s.heap (unm H cells) := by
    refine ⟨by rw [List.length_map]; exact CT.len, fun y c e => ?_, CT.inj, fun i y e => ?_⟩
    · obtain ⟨o, v, q, ed⟩ := CT.all y c e
      exact ⟨unm_in q, v, o, cellX_at e0.hok (kn c o q), ed⟩
    · obtain ⟨c, hc, hv⟩ := CT.has i y e
      refine ⟨c, hc, fun v ev => ?_⟩
      rw [List.getElem?_map] at ev
      have ev2 : vs[i]? = some v := by
        cases q : vs[i]? with
        | none => rw [q] at ev; cases ev
        | some z => rw [q] at ev; cases ev; rfl
      obtain ⟨u, o, r, q, ed⟩ := hv v ev2
      exact ⟨u, r, o, cellX_at e0.hok (kn c o q), ed⟩
  have lim : s.heap.NoLimit := e0.mod.nolimit.keeps fun b o e => (e0.bs b o e).1
  have nfr : ∀ a o, cells.lookup a = some o → a ∉ frs outer := fun a o q z => by
    have e := e0.frf a z
    rw [kn a o q] at e
    cases e
  have hwl : ws.length = ps.length := by rw [rd.length]; exact hl
  have px := px_unm (C := C) kn
  have run : codeAny (model P w) A (.call (.ref f) ⟨us, []⟩) (CR (L2.CX P w) outer P w (unm H cells) s (fun v H' => Un0 H' cells → Q v (msk H' cells)) (fun cls d H' => Un0 H' cells → E cls d (msk H' cells))) s := by
    obtain ⟨od, sl, pm, ctv, ho⟩ := lamO_at hoku hfu
    refine PySem.W.kla_callFunE hr.depth ho rfl S.co S.gen rfl (codeO_at hoku hcu) ?_
    rw [hb cl pm ctv c' us (by rw [← rv.length]; exact hwl)]
    refine wpAny_pure (wpAny_newFunctionEnv S.nocell (fun ⟨n, _⟩ hy => S.par n (List.of_mem_zip hy).1) (fun h₁ hns hsb => ⟨lim.fresh _ hsb, ?_⟩) S.kind)
    show codeAny _ _ (.expr L.body (envF (L.nf cl c') f s.heap.objs.size)) _ _
    have kp : ∀ b o, s.heap.get? b = some o → h₁.get? b = some o := fun b o e => hsb.extBut b o (Nat.ne_of_lt (Heap.lt_size e)) (Heap.get?_push_of_some _ e)
    have J : Inv (ncx (L2.CX P w) P w K mg base N (L.nf cl c') f A outer s (unm H cells) (fun cls d H' => Un0 H' cells → E cls d (msk H' cells))) [] (startF N ws (vs.map some)) (unm H cells) { s with heap := h₁, toks := s.toks + (ps.zip us).length } := inv_startN S hr.hd e0u hwl rv CA hns kp
    refine PySem.W.kla_codeExpr (wpAny_mono ((hbody A outer s (unm H cells) _ f c' cl (hr.deeper _)).run [] _ _ (unm H cells) (fun v H' => Un0 H' cells → Q v (msk H' cells)) J ?_) (fun v s' hq => ?_) fun e s' hq => hq)
    · have er : EnvR G (C.noC cells) (unm H cells) (startF N ws (vs.map some)) (startE N.length (ds ++ cs)) [] := by
        have q := EnvR.start (G := G) (C := C.noC cells) (H := unm H cells) (N.length - (ds ++ cs).length) ((rd.px px pd).append (rc.px px pc))
        unfold startF startE
        rw [← List.append_assoc, ← List.map_append]
        rw [List.length_append] at q
        rw [List.length_map, List.length_append, rd.length, rc.length, Nat.sub_sub]
        exact q
      refine ⟨C.noC cells, n, startE N.length (ds ++ cs), [], ⟨wf_unm e0.hok wf kn CT.cel, er, List.nodup_nil, fun a m => absurd m (by simp)⟩, ?_⟩
      refine T.wp_mono hw (fun d n' _ z C' H' v st wf' r k0 => ?_) (fun e n' _ z C' H' cls dx st wf' r k0 => ?_)
      · exact z _ _ v (step_msk kn st k0 wf') (wf_msk wf' k0) (r.unview.nx (nx_msk k0))
      · exact z _ _ cls dx (step_msk kn st k0 wf') (wf_msk wf' k0) r
    · obtain ⟨w', H', J', rv, q⟩ := hq
      exact ⟨w', H', J'.os, J'.bare, J'.base, J'.hok, rv, q⟩
  refine codeAny_mono run fun r s' hq => ?_
  cases r with
  | error e => exact cx_of_unm hq kn e0.hok nfr fun cls d H' k0 z => z k0
  | ok fl =>
    cases fl with
    | ret u =>
      obtain ⟨v, H', os, bare, un, hok, r, q⟩ := hq
      have k0 : Un0 H' cells := fun b ob z => un.free b ob (cellX_at e0.hok (kn b ob z)) (unm_in z) (by simp)
      have kc : ∀ a o, cells.lookup a = some o → s'.heap.get? a = some o := fun b ob z => un.keep b ob (cellX_at e0.hok (kn b ob z)) (unm_in z) (nfr b ob z) (by simp)
      exact ⟨v, msk H' cells, os, bare, un_of_unm un kn, hok_msk hok k0 kc, r, q k0⟩
    | next => exact False.elim hq
    | brk => exact False.elim hq
    | cont => exact False.elim hq
end
end Pu
set_option Elab.async false
set_option linter.all false
set_option maxRecDepth 100000
set_option maxHeartbeats 4000000
namespace Pu
open PySem L2 Stp NdefX LamX
open PyProof.Rows hiding St
/-! ### a closure called by the name that holds it -/
abbrev LamL := List (Nat × Nat × (List D → List D → T D))
def LamL.look : LamL → Nat → Option (Nat × (List D → List D → T D))
  | [], _ => none
  | (k, m) :: L, c => if k = c then some m else LamL.look L c
def LOks (P : Program) (w : World) (K : PySem.W.Frag) (mg : Str → Option Value) (base : Heap) (G : GC) (k : Nat) (L : LamL) : Prop := ∀ id np m, L.look id = some (np, m) → LOk P w K mg base G k id np m
section
variable {P : Program} {w : World} {K : PySem.W.Frag} {mg : Str → Option Value} {base : Heap} {G : GC} {k j : Nat} {L : LamL}
theorem LOk.mono {id np : Nat} {m : List D → List D → T D} (o : LOk P w K mg base G j id np m) (h : j ≤ k) : LOk P w K mg base G k id np m := fun A outer s H C n f vs ws cs ds us Q E hr => o A outer s H C n f vs ws cs ds us Q E (hr.mono h)
theorem loks_nil : LOks P w K mg base G k [] := fun id np m e => by cases e
theorem loks_cons {id np : Nat} {m : List D → List D → T D} (o : LOk P w K mg base G k id np m) (r : LOks P w K mg base G k L) : LOks P w K mg base G k ((id, np, m) :: L) := fun id' np' m' e => by
  unfold LamL.look at e
  by_cases hc : id = id'
  · rw [if_pos hc] at e
    cases e
    subst hc
    exact o
  · rw [if_neg hc] at e
    exact r id' np' m' e
theorem LOks.mono (o : LOks P w K mg base G j L) (h : j ≤ k) : LOks P w K mg base G k L := fun id np m e => (o id np m e).mono h
end
def callV (L : LamL) : D → List D → T D
  | .fn id cs, ds => (match L.look id with
    | some (np, m) => grd (plainL cs = true ∧ plainL ds = true ∧ ds.length = np) (m cs ds)
    | none => .fail)
  | _, _ => .fail
def callVs (L : LamL) (ma : T (List D)) : D → T D
  | .fn id cs => ma.bind fun ds => callV L (.fn id cs) ds
  | _ => .fail
def qCallV (L : LamL) (i : Nat) (ma : Env → T (List D)) : Env → T D := fun env => (qVar i env).bind (callVs L (ma env))
section
variable {X : Cx} {G : GC} {W : WX} {LT : Nat → Option LamD} {L : LamL} {k i : Nat} {x : Str} {p pos : Pos} {e : Expr} {es : List Expr} {ma : Env → T (List D)}
theorem fnAt_lam {pins : List (Addr × Obj)} {σ : St} {H : Hp} {s : Shared} {f : Addr} {id : Nat} {vs : List V} (gf : GF G LT) (I : Inv X pins σ H s) (h : G.fnP id f H vs) : PySem.W.FnAt f s.heap := by
  obtain ⟨L, cl, c', cs, e1, e2, _⟩ := (gf.fn _ _ _ _).mp h
  obtain ⟨od, sl, pm, ctv, ho⟩ := lamO_at I.hok e2
  exact ⟨_, od, _, sl, ho⟩
theorem run_lam {pins : List (Addr × Obj)} {σ : St} {H : Hp} {s : Shared} {f : Addr} {id : Nat} {vs ws : List V} {cs ds : List D} {us : List Value} {C : Cf} {n : Nat} {env : Env} {own : List Addr} {Q : VK} (tk : Takes X W) (hr : Room k X.A) (hL : LOks X.prog X.w X.K X.mg X.base G k L) (I : Inv X pins σ H s) (h : G.fnP id f H vs) (rc : RepL G C H vs cs) (rv : Vals ws us) (rd : RepL G C H ws ds)
    (hq : At G W (rV G false) σ env own C n H (callV L (.fn id cs) ds) Q) : wpAny (model X.prog X.w) X.A (call (.ref f) us) (EP X pins σ Q) X.xe s := by
  replace hq : At G W (rV G false) σ env own C n H (match L.look id with
    | some (np, m) => grd (plainL cs = true ∧ plainL ds = true ∧ ds.length = np) (m cs ds)
    | none => .fail) Q := hq
  cases q : L.look id with
  | none => rw [q] at hq; exact hq.no.elim
  | some p =>
    obtain ⟨np, m⟩ := p
    rw [q] at hq
    obtain ⟨⟨h1, h2, h3⟩, hq⟩ := hq.grd
    refine wpAny_call (codeAny_mono (hL id np m q X.A X.stack s H C n f vs ws cs ds us Q (WE W σ) hr I.env0 h rc hq.ok.wf rv rd h1 h2 h3 (T.wp_mono hq.wp (fun d n' _ z C' H' v s w r => z C' H' v s w (r.view false)) (fun e n' _ z => z))) fun r s' hq => ?_)
    cases r with
    | error e => exact passAt tk σ pins H s e s' I hq
    | ok fl =>
      cases fl with
      | ret u => exact I.after hq
      | next => exact False.elim hq
      | brk => exact False.elim hq
      | cont => exact False.elim hq
theorem s_callV (gf : GF G LT) (tk : Takes X W) (hr : Room k X.A) (hL : LOks X.prog X.w X.K X.mg X.base G k L) (hN : X.N[i]? = some x) (hv : Vis X.env.scope x) (ha : PA X (e :: es) (tA G W false ma))
    (hd : (x == ("__debug__" : Str)) = false := by decide) (hcd : (x == ("__classdict__" : Str)) = false := by decide)
    (he : starEach (e :: es) X.env = (false, eval e X.env) :: starEach es X.env := by rfl) (hpl : (backTo pos (starEach es X.env)).any (·.1) = false := by rfl) :
    PE X (.Call (.Name x p) (e :: es) [] pos) (tQ G W false (qCallV L i ma)) := by
  refine ⟨fun pins s σ H Q I h => ?_⟩
  obtain ⟨C, n, env, us, h⟩ := h
  refine wpAny_Call_Name_kw (thn ((s_var (G := G) (W := W) (pos := p) i hN hv hd hcd).run pins s σ H _ I ⟨C, n, env, us, h.bind (R := rV G false)⟩) fun u s1 ⟨v, H1, I1, r1, C1, n1, d, s1', r1', h1⟩ => ?_)
  have r1' := r1'.unview
  cases r1' with
  | @fn f id vs cs hf rc =>
    obtain rfl : u = Value.ref f := r1
    refine PySem.W.callWith_F (first := []) (fnAt_lam gf I1 hf) (thn (ha.run pos pins s1 σ H1 _ I1 ⟨C1, n1, env, us, h1.bind (R := rA G false)⟩) fun us' s2 ⟨ws, H2, I2, r2, C2, n2, ds, s2', r2', h2⟩ => ⟨fnAt_lam gf I2 (G.fnS _ _ _ _ _ hf s2'.nx.xp), ?_⟩) he hpl
    show wpAny _ _ (call (.ref f) us') _ _ _
    exact run_lam tk hr hL I2 (G.fnS _ _ _ _ _ hf s2'.nx.xp) (rc.nx s2'.nx) r2 (r2'.nx (Nx.unview _ _)) h2
  | _ => exact h1.no.elim
theorem s_callV0 (gf : GF G LT) (tk : Takes X W) (hr : Room k X.A) (hL : LOks X.prog X.w X.K X.mg X.base G k L) (hN : X.N[i]? = some x) (hv : Vis X.env.scope x)
    (hd : (x == ("__debug__" : Str)) = false := by decide) (hcd : (x == ("__classdict__" : Str)) = false := by decide) :
    PE X (.Call (.Name x p) [] [] pos) (tQ G W false (qCallV L i aNil)) := by
  refine ⟨fun pins s σ H Q I h => ?_⟩
  obtain ⟨C, n, env, us, h⟩ := h
  refine wpAny_Call_Name_kw (thn ((s_var (G := G) (W := W) (pos := p) i hN hv hd hcd).run pins s σ H _ I ⟨C, n, env, us, h.bind (R := rV G false)⟩) fun u s1 ⟨v, H1, I1, r1, C1, n1, d, s1', r1', h1⟩ => ?_)
  have r1' := r1'.unview
  cases r1' with
  | @fn f id vs cs hf rc =>
    obtain rfl : u = Value.ref f := r1
    refine PySem.W.callWith_F0 (first := []) (fnAt_lam gf I1 hf) ?_
    show wpAny _ _ (call (.ref f) []) _ _ _
    exact run_lam tk hr hL I1 hf rc .nil .nil h1
  | _ => exact h1.no.elim
end
/-! ### a lambda handed to a def -/
def capsD (env : Env) : List Nat → Option (List D)
  | [] => some []
  | j :: js => (match env[j]? with
    | some (some (.fz d)) => (capsD env js).map (d :: ·)
    | _ => none)
inductive ArgL (G : GC) (C : Cf) (H : Hp) (id : Nat) (L : LamD) (cl : List (Str × Addr)) (cs : Option (List D)) : List V → List D → Prop
  | nil : ArgL G C H id L cl cs [] []
  | cons {v : V} {d : D} {vs : List V} {ds : List D} : Rep G C H v d → ArgL G C H id L cl cs vs ds → ArgL G C H id L cl cs (v :: vs) (d :: ds)
  | lam {f c' : Addr} {es : List D} {vs : List V} {ds : List D} : H f = some (LamO f L cl c') → H c' = some (CodeO c' L.qual) → cs = some es → ArgL G C H id L cl cs vs ds → ArgL G C H id L cl cs (.ref f :: vs) (.fn id es :: ds)
theorem ArgL.nx {G : GC} {C C' : Cf} {H H' : Hp} {id : Nat} {L : LamD} {cl : List (Str × Addr)} {cs : Option (List D)} (n : Nx C C' H H') : ∀ {vs : List V} {ds : List D}, ArgL G C H id L cl cs vs ds → ArgL G C' H' id L cl cs vs ds
  | _, _, .nil => .nil
  | _, _, .cons r l => .cons (r.nx n) (ArgL.nx n l)
  | _, _, .lam h1 h2 e l => .lam (n.xp _ _ h1) (n.xp _ _ h2) e (ArgL.nx n l)
theorem ArgL.of {G : GC} {C : Cf} {H : Hp} {id : Nat} {L : LamD} {cl : List (Str × Addr)} {cs : Option (List D)} : ∀ {vs : List V} {ds : List D}, RepL G C H vs ds → ArgL G C H id L cl cs vs ds
  | _, _, .nil => .nil
  | _, _, .cons r l => .cons r (ArgL.of l)
theorem ArgL.length {G : GC} {C : Cf} {H : Hp} {id : Nat} {L : LamD} {cl : List (Str × Addr)} {cs : Option (List D)} : ∀ {vs : List V} {ds : List D}, ArgL G C H id L cl cs vs ds → vs.length = ds.length
  | _, _, .nil => rfl
  | _, _, .cons _ l => congrArg (· + 1) (ArgL.length l)
  | _, _, .lam _ _ _ l => congrArg (· + 1) (ArgL.length l)
def rAL (X : Cx) (G : GC) (id : Nat) (L : LamD) (cs : Option (List D)) : RR (List D) (List V) := fun C H vs ds => ArgL G C H id L (cloFrom X.env.cells L.scope.names []) cs vs ds
def tAL (X : Cx) (G : GC) (W : WX) (id : Nat) (L : LamD) (js : List Nat) (m : Env → T (List D)) : TA := fun σ H Q => ∃ C n env us, At G W (rAL X G id L (capsD env js)) σ env us C n H (m env) Q
def aLam (id : Nat) (js : List Nat) (k : Env → T (List D)) : Env → T (List D) := fun env => match capsD env js with
  | some cs => (k env).bind fun ds => .ret (.fn id cs :: ds)
  | none => .fail
section
variable {X : Cx} {G : GC} {W : WX} {LT : Nat → Option LamD} {L : LamD} {k i id : Nat} {js : List Nat} {x : Str} {p pos : Pos} {e : Expr} {es : List Expr} {m : Env → T D} {ma : Env → T (List D)}
theorem al_of (h : PA X es (tA G W false ma)) : PA X es (tAL X G W id L js ma) := by
  refine PA.imp h fun σ H Q k => ?_
  obtain ⟨C, n, env, us, k⟩ := k
  exact ⟨C, n, env, us, k.ok, T.wp_mono k.wp (fun d n' _ z C' H' v s w r => z C' H' v s w (.of (r.nx (Nx.unview _ _)))) (fun _ _ _ z => z)⟩
theorem al_cons (ha : PE X e (tQ G W false m)) (hr : PA X es (tAL X G W id L js ma)) (hs : starEach (e :: es) X.env = (false, eval e X.env) :: starEach es X.env := by rfl) : PA X (e :: es) (tAL X G W id L js (aCons m ma)) := by
  refine PA.imp (pa_cons ha hr hs) fun σ H Q h => ?_
  obtain ⟨C, n, env, us, h⟩ := h
  refine ⟨C, n, env, us, (h.bind (R := rV G false)).imp ?_⟩
  rintro v H1 ⟨C1, n1, d, s1, r1, h1⟩
  refine ⟨C1, n1, env, us, (h1.bind (R := rAL X G id L (capsD env js))).imp ?_⟩
  rintro vs H2 ⟨C2, n2, ds, s2, r2, h2⟩
  exact h2.ret (.cons (r1.unview.nx s2.nx) r2)
def tLamE (X : Cx) (T : List NTab) (L : LamD) : TE := fun σ H Q => TabsN T H ∧ ∀ (f c' : Addr) (H1 : Hp), ExtN H H1 → (∀ b, H1 b = Option.none → H b = Option.none) → TabsN T H1 → H f = none → H1 f = some (LamO f L (cloFrom X.env.cells L.scope.names []) c') → H1 c' = some (CodeO c' L.qual) → Q (.ref f) H1
theorem pe_lamE {T : List NTab} {nm : Nat → Nat → Str} {c P : Addr} (TB : TabB X.base X.mg c P) (hcode : X.env.code = .ref c) (hq : L.qual = X.env.qual ++ "<lambda>")
    (hm : (P, nm) ∈ T) (hn : nm pos.line pos.col = L.qual) (hu : ∀ p ∈ T, p.1 = P → p.2 = nm) (hdef : defaultsOf L.params X.env = ([], [])) (hfree : ∀ y ∈ L.scope.names, y.2 = .free → X.env.scope.names.lookup y.1 = some .cell ∨ X.env.scope.names.lookup y.1 = some .free) :
    PE X (.Lambda L.params L.body L.scope pos) (tLamE X T L) := by
  refine ⟨fun pins s σ H Q I h => ?_⟩
  exact lam_new I TB hcode hq hm hn hu h.1 hdef (fun y hy e => I.ok.has _ (hfree y hy e)) fun f c' H1 s' I1 x1 x2 x3 x4 x5 x6 => ⟨.ref f, H1, I1, rfl, h.2 f c' H1 x1 x2 x3 x4 x5 x6⟩
theorem al_lam {nm : Nat → Nat → Str} {c P : Addr} (TB : TabB X.base X.mg c P) (hcode : X.env.code = .ref c) (hq : L.qual = X.env.qual ++ "<lambda>")
    (hm : (P, nm) ∈ G.T) (hn : nm pos.line pos.col = L.qual) (hu : ∀ p ∈ G.T, p.1 = P → p.2 = nm) (hdef : defaultsOf L.params X.env = ([], [])) (hfree : ∀ y ∈ L.scope.names, y.2 = .free → X.env.scope.names.lookup y.1 = some .cell ∨ X.env.scope.names.lookup y.1 = some .free)
    (hr : PA X es (tA G W false ma)) (hs : starEach (.Lambda L.params L.body L.scope pos :: es) X.env = (false, eval (.Lambda L.params L.body L.scope pos) X.env) :: starEach es X.env := by rfl) : PA X (.Lambda L.params L.body L.scope pos :: es) (tAL X G W id L js (aLam id js ma)) := by
  refine PA.imp (pa_cons (pe_lamE TB hcode hq hm hn hu hdef hfree) hr hs) fun σ H Q h => ?_
  obtain ⟨C, n, env, us, h⟩ := h
  refine ⟨h.ok.wf.tab, fun f c' H1 x1 x2 x3 x4 x5 x6 => ?_⟩
  have st : Step [] C H C H1 := by
    refine ⟨fun a o e t _ _ => x1 a o e t, fun a o e => ?_, ⟨fun a o f e t => ⟨f, x1 a o e t⟩, fun a xs e => x1 a _ e (fun _ z => by cases z), fun a o u e => x1 a _ e (fun _ z => by cases z), fun a φ e => x1 a _ e (fun _ z => by cases z), fun _ h => h⟩, fun a h => .inl h, fun a h => .inl h, rfl⟩
    cases q : H1 a with
    | some o' => exact ⟨o', rfl⟩
    | none => rw [x2 a q] at e; cases e
  have wf1 : Wf G C n H1 := by
    refine ⟨fun p c e => ?_, fun a h' => ?_, x3⟩
    · obtain ⟨xs, i, r, ⟨h1, h2, h3⟩, h4⟩ := h.ok.wf.pen p c e
      exact ⟨xs, i, r, ⟨x1 _ _ h1 (fun _ z => by cases z), x1 _ _ h2 (fun _ z => by cases z), h3⟩, h4⟩
    · obtain ⟨⟨o, e, t⟩, np⟩ := h.ok.wf.fz a h'
      exact ⟨⟨o, x1 _ _ e t, t⟩, np⟩
  have k1 := h.ok.q st wf1
  unfold aLam at h
  cases q : capsD env js with
  | none => rw [q] at h; exact h.no.elim
  | some cs =>
    rw [q] at h
    refine ⟨C, n, env, us, k1, T.wp_mono (T.wp_bind h.wp) (fun ds n' _ z C' H' vs s w r => ?_) (fun e n' _ z C' H' cls dx s w r => z C' H' cls dx (st.trans s (by simp)) w r)⟩
    exact z C' H' (.ref f :: vs) (st.trans s (by simp)) w (.lam (s.nx.xp _ _ x5) (s.nx.xp _ _ x6) rfl (.of (r.nx (Nx.unview _ _))))
end
theorem cells_list (h : Heap) : ∀ (cl : List (Str × Addr)), (∀ p ∈ cl, ∃ o v, h.get? p.2 = some o ∧ o.data = .cell v) → ∃ cs : CL, (∀ p ∈ cl, ∃ o, cs.lookup p.2 = some o) ∧ ∀ a o, cs.lookup a = some o → (∃ p ∈ cl, p.2 = a) ∧ h.get? a = some o ∧ ∃ v, o.data = .cell v
  | [], _ => ⟨[], fun p hp => (by simp at hp), fun a o e => (by cases e)⟩
  | q :: cl, H => by
    obtain ⟨cs, h1, h2⟩ := cells_list h cl fun p hp => H p (List.mem_cons_of_mem _ hp)
    obtain ⟨o, v, e1, e2⟩ := H q (List.mem_cons_self ..)
    refine ⟨(q.2, o) :: cs, fun p hp => ?_, fun a o' e => ?_⟩
    · by_cases hq : p.2 = q.2
      · exact ⟨o, by rw [hq, List.lookup_cons]; simp⟩
      · rcases List.mem_cons.mp hp with hp | hp
        · rw [hp] at hq; exact absurd rfl hq
        · obtain ⟨o', e'⟩ := h1 p hp
          refine ⟨o', ?_⟩
          rw [List.lookup_cons, beq_false_of_ne hq]
          exact e'
    · by_cases hq : a = q.2
      · rw [hq, List.lookup_cons] at e
        simp at e
        subst e
        exact ⟨⟨q, List.mem_cons_self .., hq.symm⟩, by rw [hq]; exact e1, v, e2⟩
      · rw [List.lookup_cons, beq_false_of_ne hq] at e
        obtain ⟨⟨p, hp, hpa⟩, h3, h4⟩ := h2 a o' e
        exact ⟨⟨p, List.mem_cons_of_mem _ hp, hpa⟩, h3, h4⟩
theorem caps_at {G : GC} {C : Cf} {H : Hp} {σ : St} {env : Env} {us : List Addr} (er : EnvR G C H σ env us) : ∀ {js : List Nat} {es : List D}, capsD env js = some es → ∃ vs : List V, js.map (slotAt σ) = vs.map some ∧ RepL G C H vs es
  | [], es, e => by cases e; exact ⟨[], rfl, .nil⟩
  | j :: js, es, e => by
    unfold capsD at e
    cases q : env[j]? with
    | none => rw [q] at e; cases e
    | some o =>
      rw [q] at e
      cases o with
      | none => cases e
      | some o =>
        cases o with
        | fz d =>
          dsimp only at e
          cases q2 : capsD env js with
          | none => rw [q2] at e; cases e
          | some es' =>
            rw [q2] at e
            cases e
            obtain ⟨vs, h1, h2⟩ := caps_at er q2
            obtain ⟨v, us1, f1, f2, _⟩ := er.at q
            cases f2 with
            | fz r => exact ⟨v :: vs, by rw [List.map_cons, List.map_cons, slotAt_of f1, h1], .cons r h2⟩
        | _ => cases e
/-- the cells of the lambda are known from now on -/
structure Masked (X : Cx) (G : GC) (C : Cf) (n : Nat) (H : Hp) (s : Shared) (vs : List V) (ds : List D) (cs : CL) : Prop where
  un : Un0 H cs
  at_ : ∀ a o, cs.lookup a = some o → s.heap.get? a = some o
  cel : ∀ c o, cs.lookup c = some o → ∃ v, o.data = .cell v
  e0 : Env0 X.prog X.w X.K X.mg X.base X.A X.stack s (msk H cs)
  wf : Wf G C n (msk H cs)
  rp : RepL G C (msk H cs) vs ds
section
variable {X : Cx} {G : GC} {W : WX} {LT : Nat → Option LamD} {L : LamD} {k i id : Nat} {js : List Nat} {pins : List (Addr × Obj)} {σ : St} {H : Hp} {s : Shared} {C : Cf} {n : Nat} {env : Env} {us : List Addr}
theorem mask_args {vs : List V} {ds : List D} (gf : GF G LT) (hL : LT id = some L) (hfn : ∀ x, X.fn x = true) (hfree : ∀ y ∈ L.scope.names, y.2 = .free → X.env.scope.names.lookup y.1 = some .cell ∨ X.env.scope.names.lookup y.1 = some .free) (hfr : ∀ y ∈ L.fr, (y, NameKind.free) ∈ L.scope.names) (hjs : js.map (fun j => X.N[j]?) = L.fr.map some)
    (I : Inv X pins σ H s) (ok : Ok G C n σ env us H) (ar : ArgL G C H id L (cloFrom X.env.cells L.scope.names []) (capsD env js) vs ds) : ∃ cs, Masked X G C n H s vs ds cs := by
  have hf : ∀ y ∈ L.scope.names, y.2 = .free → ∃ c, X.env.cells.lookup y.1 = some c := fun y hy e => I.ok.has _ (hfree y hy e)
  have cp : Caps X (cloFrom X.env.cells L.scope.names []) L.fr js := Caps.made I.ok hfree hfr hjs
  have CA := cells_of I cp
  have mem : ∀ p ∈ cloFrom X.env.cells L.scope.names [], X.env.cells.lookup p.1 = some p.2 := fun p hp => by
    rcases cloFrom_mem (n := p.1) (c := p.2) hp with z | ⟨z1, z2⟩
    · cases z
    · obtain ⟨c1, hc⟩ := hf _ z1 rfl
      have hc : X.env.cells.lookup p.1 = some c1 := hc
      rw [z2, hc]; rfl
  obtain ⟨cs, h1, h2⟩ := cells_list s.heap (cloFrom X.env.cells L.scope.names []) fun p hp => by
    obtain ⟨v, o, e1, e2⟩ := I.cell p.1 p.2 (mem p hp)
    exact ⟨o, v, e1, e2⟩
  have un : Un0 H cs := fun a o e => by
    obtain ⟨⟨p, hp, hpa⟩, _⟩ := h2 a o e
    rw [← hpa]
    exact I.freeC p.1 p.2 (mem p hp)
  have at_ : ∀ a o, cs.lookup a = some o → s.heap.get? a = some o := fun a o e => (h2 a o e).2.1
  have nx : Nx C C H (msk H cs) := by
    have q : ∀ a o, H a = some o → msk H cs a = some o := fun a o e => by rw [msk_out (un.out e)]; exact e
    exact ⟨fun a o f e _ => ⟨f, q a o e⟩, fun a xs e => q a _ e, fun a o u e => q a _ e, fun a φ e => q a _ e, fun _ h => h⟩
  have hok := hok_msk I.hok un at_
  refine ⟨cs, un, at_, fun c o e => (h2 c o e).2.2, ⟨I.env0.frames, I.env0.mod, fun b o e => ⟨(I.env0.bs b o e).1, ?_⟩, I.env0.bsz, I.env0.funs, fun b hb => ?_, hok, I.bare⟩, ⟨fun p c e => ?_, fun a h => ?_, fun p hp => (ok.wf.tab p hp).ext fun b o e => by rw [msk_out (un.out e)]; exact e⟩, ?_⟩
  · cases q : cs.lookup b with
    | none => rw [msk_out q]; exact (I.env0.bs b o e).2
    | some ob =>
      exfalso
      obtain ⟨⟨p, hp, hpa⟩, _⟩ := h2 b ob q
      have z := I.ok.cab p.1 p.2 (hfn _) (mem p hp)
      rw [hpa] at z
      exact Nat.lt_irrefl _ (Nat.lt_of_lt_of_le (Heap.lt_size (I.ok.bs b o e).1) z)
  · cases q : cs.lookup b with
    | none => rw [msk_out q]; exact I.env0.frf b hb
    | some ob =>
      exfalso
      obtain ⟨⟨p, hp, hpa⟩, _⟩ := h2 b ob q
      have z := I.ok.cab p.1 p.2 (hfn _) (mem p hp)
      rw [hpa] at z
      rcases List.mem_cons.mp (I.stkSub _ hb) with e | e
      · obtain ⟨m, ⟨ob', es, ep, ho, r⟩, _⟩ := I.loc
        obtain ⟨_, h3, v, ed⟩ := h2 b ob q
        rw [e, ho] at h3
        cases h3
        first | (have r1 := r.1; rw [ed] at r1; cases r1; done) | (have r1 := r.2.1; rw [ed] at r1; cases r1; done) | (have r1 := r.2.2.1; rw [ed] at r1; cases r1; done)
      · obtain ⟨_, o1, e1, _⟩ := I.ok.funs.mem e
        exact Nat.lt_irrefl _ (Nat.lt_of_lt_of_le (Heap.lt_size e1) z)
  · obtain ⟨xs, i, r, ⟨h1, h2, h3⟩, h4⟩ := ok.wf.pen p c e
    exact ⟨xs, i, r, ⟨by rw [msk_out (un.out h1)]; exact h1, by rw [msk_out (un.out h2)]; exact h2, h3⟩, h4⟩
  · obtain ⟨⟨o, e, t⟩, np⟩ := ok.wf.fz a h
    exact ⟨⟨o, by rw [msk_out (un.out e)]; exact e, t⟩, np⟩
  · have go : ∀ {vs : List V} {ds : List D}, ArgL G C H id L (cloFrom X.env.cells L.scope.names []) (capsD env js) vs ds → RepL G C (msk H cs) vs ds := by
      intro vs ds a
      induction a with
      | nil => exact .nil
      | cons r _ ih => exact .cons (r.nx nx) ih
      | @lam f c' es _ _ e1 e2 e3 _ ih =>
        obtain ⟨ws, q1, q2⟩ := caps_at ok.env e3
        refine .cons (.fn ((gf.fn _ _ _ _).mpr ⟨L, _, c', cs, hL, nx.xp _ _ e1, nx.xp _ _ e2, ⟨?_, CA.inj, fun a o e => msk_in e, fun y c e => ?_, fun i y e => ?_, fun c o e => (h2 c o e).2.2⟩⟩) (q2.nx nx)) ih
        · have z := CA.len
          rw [q1, List.length_map] at z
          exact z
        · obtain ⟨o, eo⟩ := h1 (y, c) (PySem.mem_of_lookup e)
          obtain ⟨v, ev⟩ := (h2 c o eo).2.2
          exact ⟨o, v, eo, ev⟩
        · obtain ⟨c, hc, hv⟩ := CA.has i y e
          refine ⟨c, hc, fun v ev => ?_⟩
          obtain ⟨u, ru, o, eo, ed⟩ := hv v (by rw [q1, List.getElem?_map, ev]; rfl)
          obtain ⟨o', eo'⟩ := h1 (y, c) (PySem.mem_of_lookup hc)
          have z := at_ c o' eo'
          rw [eo] at z
          cases z
          exact ⟨u, o, ru, eo', ed⟩
    exact go ar
end
end Pu
set_option Elab.async false
set_option linter.all false
set_option maxRecDepth 100000
set_option maxHeartbeats 4000000
namespace Pu
open PySem L2 Stp NdefX LamX
open PyProof.Rows hiding St
def plainR (d : D) : T D := grd (plainD d = true) (.ret d)
section
variable {G : GC} {C C' : Cf} {H H' : Hp} {cs : CL}
theorem kn_msk (st : Step [] C (msk H cs) C' H') : Kn H' cs := fun a o e => st.nx.xp a _ (msk_in e)
theorem step_unm (un : Un0 H cs) (st : Step [] C (msk H cs) C' H') : Step [] C H (C'.noC cs) (unm H' cs) := by
  have up : ∀ a o, H a = some o → cs.lookup a = none ∧ msk H cs a = some o := fun a o e => ⟨un.out e, by rw [msk_out (un.out e)]; exact e⟩
  refine ⟨fun a o e t h1 h2 => ?_, fun a o e => ?_, ⟨fun a o f e t => ?_, fun a xs e => ?_, fun a o u e => ?_, fun a φ e => ?_, st.nx.pn⟩, fun a h => ?_, fun a h => ?_, st.me⟩
  · rw [unm_out (up a o e).1]
    exact st.kp a o (up a o e).2 t h1 h2
  · obtain ⟨o', e'⟩ := st.al a o (up a o e).2
    exact ⟨o', by rw [unm_out (up a o e).1]; exact e'⟩
  · have z := st.nx.fk a o f (up a o e).2 t
    exact ⟨⟨z.1, (up a o e).1⟩, by rw [unm_out (up a o e).1]; exact z.2⟩
  · rw [unm_out (up a _ e).1]
    exact st.nx.tp a xs (up a _ e).2
  · rw [unm_out (up a _ e).1]
    exact st.nx.fp a o u (up a _ e).2
  · rw [unm_out (up a _ e).1]
    exact st.nx.xp a φ (up a _ e).2
  · rcases st.fn a h.1 with z | z | z
    · exact .inl z
    · cases z
    · rw [msk_out h.2] at z
      exact .inr (.inr z)
  · rcases st.pf a h with z | z
    · exact .inl z
    · cases q : cs.lookup a with
      | none => rw [msk_out q] at z; exact .inr z
      | some ob => rw [msk_in q] at z; cases z
end
section
variable {X : Cx} {G : GC} {W : WX} {LT : Nat → Option LamD} {L : LamD} {k id : Nat} {js : List Nat} {pins : List (Addr × Obj)} {σ : St} {H : Hp} {s : Shared} {C : Cf} {n : Nat} {env : Env} {own : List Addr} {f : Addr} {fd : FuncData} {ps : List Str} {mf : List D → T D}
/-- a call with the lambda's cells known -/
theorem run_masked {vs : List V} {ds : List D} {us : List Value} {cs : CL} {Q : VK} {A' : Around} (tk : Takes X W) (F : FnOk X.prog X.w X.K X.mg X.base (L2.CX X.prog X.w) k f fd ps (spM G ps.length mf)) (hr : Room k X.A) (hb : Binds X.K fd ps []) (I : Inv X pins σ H s) (M : Masked X G C n H s vs ds cs) (rv : Vals vs us) (hl : ds.length = ps.length)
    (hq : At G W (rV G false) σ env own C n H ((mf ds).bind plainR) Q) : wpAny (model X.prog X.w) X.A (call (.ref f) us) (EP X pins σ Q) X.xe s := by
  have hsp : spM G ps.length mf vs (msk H cs) (fun v H' => Kn H' cs ∧ ∀ h, HOk X.prog X.w H' h → Q v (unm H' cs)) (fun cls d H' => Kn H' cs ∧ ∀ h, HOk X.prog X.w H' h → W cls d σ (unm H' cs)) := by
    refine ⟨C, n, ds, M.wf, M.rp, hl, T.wp_mono (T.wp_bind hq.wp) (fun d n' _ z C' H' v st wf r => ?_) (fun e n' _ z C' H' cls dx st wf r => ?_)⟩
    · have kn := kn_msk st
      obtain ⟨hp, z⟩ := grd_wp z
      exact ⟨kn, fun h hok => z _ _ v (step_unm M.un st) (wf_unm hok wf kn M.cel) ((r.px (px_unm kn) hp).view false)⟩
    · have kn := kn_msk st
      exact ⟨kn, fun h hok => z _ _ cls dx (step_unm M.un st) (wf_unm hok wf kn M.cel) r⟩
  have hvl : us.length = ps.length := by rw [← rv.length, M.rp.length]; exact hl
  have b := hb s us I.kIn (by rw [List.append_nil]; exact hvl)
  rw [List.append_nil] at b
  refine wpAny_call (codeAny_mono (F.run X.A X.stack s (msk H cs) ⟨us, []⟩ us vs _ _ hr M.e0 b rv hsp) fun r s' hq => ?_)
  cases r with
  | error e => exact passAt tk σ pins H s e s' I (cx_of_msk hq M.un M.at_ fun cls d H' B hok z => ⟨z.1, z.2 B hok⟩)
  | ok fl =>
    cases fl with
    | ret u =>
      obtain ⟨v, H', os, bare, un, hok, r, kn, q⟩ := hq
      exact I.after ⟨v, unm H' cs, os, bare, un_of_msk un M.un M.at_ kn hok, hok_unm hok kn, r, q _ hok⟩
    | next => exact False.elim hq
    | brk => exact False.elim hq
    | cont => exact False.elim hq
variable {x : Str} {p pos : Pos} {e : Expr} {es : List Expr} {ma : Env → T (List D)}
def callL (np : Nat) (mf : List D → T D) (ds : List D) : T D := grd (ds.length = np) ((mf ds).bind plainR)
/-- f(.., lambda ..: .., ..) -/
theorem s_callL (gf : GF G LT) (hL : LT id = some L) (hfn : ∀ x, X.fn x = true) (hfree : ∀ y ∈ L.scope.names, y.2 = .free → X.env.scope.names.lookup y.1 = some .cell ∨ X.env.scope.names.lookup y.1 = some .free) (hfr : ∀ y ∈ L.fr, (y, NameKind.free) ∈ L.scope.names) (hjs : js.map (fun j => X.N[j]?) = L.fr.map some)
    (tk : Takes X W) (F : FnOk X.prog X.w X.K X.mg X.base (L2.CX X.prog X.w) k f fd ps (spM G ps.length mf)) (hr : Room k X.A) (hg : Gl X x) (hm : X.mg x = some (.ref f)) (hk : PySem.W.keepIn X.K (.ref f) = true) (hb : Binds X.K fd ps [])
    (ha : PA X (e :: es) (tAL X G W id L js ma)) (hdb : (x == ("__debug__" : Str)) = false := by decide) (he : starEach (e :: es) X.env = (false, eval e X.env) :: starEach es X.env := by rfl) (hpl : (backTo pos (starEach es X.env)).any (·.1) = false := by rfl) :
    PE X (.Call (.Name x p) (e :: es) [] pos) (tQ G W false (qN (callL ps.length mf) ma)) := by
  refine ⟨fun pins s σ H Q I h => ?_⟩
  obtain ⟨C, n, env, own, h⟩ := h
  refine wpAny_Call_Name_kw (ld_glob I hg hm ?_ hdb)
  refine PySem.W.callWith_K (first := []) (h₀ := X.base) I.ok.mod.kin hk (thn (ha.run pos pins s σ H _ I ⟨C, n, env, own, h.bind (R := rAL X G id L (capsD env js))⟩) fun us s2 ⟨vs, H2, I2, r2, C2, n2, ds, s2', r2', h2⟩ => ⟨I2.kIn, ?_⟩) he hpl
  show wpAny _ _ (call (.ref f) us) _ _ _
  obtain ⟨hl, h2⟩ := h2.grd
  obtain ⟨cs, M⟩ := mask_args gf hL hfn hfree hfr hjs I2 h2.ok r2'
  exact run_masked (A' := X.A) tk F hr hb I2 M r2 hl h2
end
end Pu
set_option Elab.async false
set_option linter.all false
set_option maxRecDepth 100000
set_option maxHeartbeats 4000000
namespace Pu
open PySem L2 Stp NdefX LamX
open PyProof.Rows hiding St
/-! ### try: .. except x as n: caught = n, the exception kept -/
section
variable {X : Cx} {pins : List (Addr × Obj)} {σ : L2.St} {H : Hp} {s : Shared}
/-- an object that was made here is known from now on -/
theorem Inv.track {a : Addr} {o : HO} (I : L2.Inv X pins σ H s) (n0 : X.s_0.heap.get? a = none) (na : H a = none) (nL : a ≠ X.env.locals) (nC : ∀ x c, X.env.cells.lookup x = some c → c ≠ a) (nP : ∀ p ∈ X.pn ++ pins, p.1 ≠ a) (new : ObjOk X.prog X.w (upd H a o) s.heap a o) : L2.Inv X pins σ (upd H a o) s := by
  have at_ : ∀ b u, H b = some u → upd H a o b = some u := fun b u e => by rw [upd_ne (ne_of_none e na)]; exact e
  refine ⟨I.ok, I.os, I.bare, ⟨I.base.keep, I.base.slot, fun b u e n x => ?_, I.base.there, fun b xs e => at_ _ _ (I.base.tups b xs e), fun b u w e => at_ _ _ (I.base.frzs b u w e), fun b ps e => ?_⟩, I.loc, I.cell, ?_, fun x c e => ?_, fun p hp => ?_, fun b u e => ?_, I.len⟩
  · have hb : b ≠ a := fun z => by rw [z, n0] at e; cases e
    rw [upd_ne hb]
    exact I.base.free b u e n x
  · obtain ⟨more, q⟩ := I.base.tbls b ps e
    exact ⟨more, at_ _ _ q⟩
  · rw [upd_ne (Ne.symm nL)]
    exact I.free
  · rw [upd_ne (nC x c e)]
    exact I.freeC x c e
  · obtain ⟨p1, p2, p3⟩ := I.pin p hp
    exact ⟨p1, by rw [upd_ne (nP p hp)]; exact p2, p3⟩
  · by_cases hb : b = a
    · rw [hb, upd_same] at e
      cases e
      rw [hb]
      exact new
    · rw [upd_ne hb] at e
      exact (I.hok b u e).stay (fun _ _ _ q => q) (fun c q => at_ _ _ q) fun c xs q => at_ _ _ q
/-- the context of the suite; the exception at a is marked -/
abbrev mrk (X : Cx) (a : Addr) (pn : List (Addr × Obj)) : Cx := { X with A := X.A.mark (some (.ref a)), calm := false, pn := pn, xe := fun _ _ => False }
theorem Inv.mrk (I : L2.Inv X pins σ H s) (a : Addr) : L2.Inv (mrk X a (X.pn ++ pins)) [] σ H s :=
  ⟨I.ok.suite a _, I.os, I.bare, I.base, I.loc, I.cell, I.free, I.freeC, fun p hp => I.pin p (by rw [List.append_nil] at hp; exact hp), I.hok, I.len⟩
theorem Inv.unmrk {a : Addr} {pn' : List (Addr × Obj)} (I : L2.Inv (Pu.mrk X a (X.pn ++ pins)) pn' σ H s) (ok : X.Ok) : L2.Inv X pins σ H s :=
  ⟨ok, I.os, I.bare, I.base, I.loc, I.cell, I.free, I.freeC, fun p hp => I.pin p (List.mem_append_left _ hp), I.hok, I.len⟩
end
/-- what the clause wishes: slot i the clause's name, slot j keeps the exception -/
def wKeep (K : PySem.W.Frag) (c : Value) (i j : Nat) (Wout : WX) (D : Ends) : WX := fun cls d σ H =>
  ∃ b, PySem.W.exmOne K cls c = some b ∧ (b = true → ∃ A, cls = .ref A ∧ ∀ a, H a = none → D.nx (((σ.set i (some (.ref a))).set j (some (.ref a))).set i none) (upd H a (ExcO a A d))) ∧ (b = false → Wout cls d σ H)
section
variable {X : Cx} {x n y : Str} {c : Value} {i j : Nat} {body : List Stmt} {np yp vp ap pos pos' : Pos} {tb : WX → TS} {Wout : WX}
theorem ps_keep (hs : X.stack = X.env :: X.outer) (hf : X.env.frame = some X.env.locals) (hex : X.ex = []) (hN : X.N.Nodup) (hi : X.N[i]? = some n) (hln : X.env.kindOf n = some .local) (hj : X.N[j]? = some y) (hly : X.env.kindOf y = some .local) (hc : Names X x c) (tk : Takes X Wout)
    (hdn : (n == ("__debug__" : Str)) = false) (hcn : (n == ("__classdict__" : Str)) = false)
    (hsw : swapsWith (.Name n vp) (some (.Name y yp)) ap.line X.env = pure false)
    (hb : ∀ (W : WX) (pn : List (Addr × Obj)) (xe : Value → Shared → Prop), Takes (X.tr pn xe) W → PassesOwn (model X.prog X.w) X.A X.env xe → PSs (X.tr pn xe) body (tb W)) :
    PS X (.Try body [.ExceptHandler (some (.Name x np)) (some n) [.Assign [.Name y yp] (.Name n vp) ap] pos'] [] [] pos) (fun D σ H => tb (wKeep X.K c i j Wout D) D σ H) := by
  refine ⟨fun pins s σ H D I h => ?_⟩
  have ok := I.ok
  have frame_ : X.A.frames = some (X.env :: X.outer) := by rw [ok.frames, hs]
  refine wpAny_Try_except (wpAny_mono ((hb (wKeep X.K c i j Wout D) (X.pn ++ pins) (fun er t1 => wpAny (model X.prog X.w) X.A (noteFrame er X.env) (fun _ t2 => wpAny (model X.prog X.w) X.A (setFlight er none) (fun _ t3 =>
    wpAny (model X.prog X.w) X.A (handleBy er X.env [.ExceptHandler (some (.Name x np)) (some n) [.Assign [.Name y yp] (.Name n vp) ap] pos']) (SP X pins D) X.xe t3) X.xe t2) X.xe t1) (fun u s' caught => ?_) PassesOwn.looking).run [] s σ H D (I.toTry _) h) (fun fl t1 done => ?_) (fun er t1 he => he))
  · obtain ⟨a, B, sI, pins2, σ2, H2, cls, d, rfl, J2, nb, up, sky, na, os, ag, b, hb1, yes, no⟩ := caught
    have J : L2.Inv X pins σ2 H2 sI := J2.ofTry ok
    rw [hs] at sky
    refine Sky.land Zc.steady frame_ hf sky fun h3 fl3 up3 => ?_
    have J3 : L2.Inv X pins σ2 H2 { s' with heap := h3 } := J.landed nb fl3.1 (up.trans up3) os ag
    obtain ⟨oe3, vs3, he3, hz3, hd3⟩ := fl3.there
    have nfr : a ∉ frs (X.env :: X.outer) := fun hm => by
      obtain ⟨_, o', e', hnf⟩ := fl3.2.2.1.mem hm
      rw [he3] at e'
      cases e'
      exact hnf _ hd3
    have nL : a ≠ X.env.locals := fun z => nfr (List.mem_filterMap.mpr ⟨X.env, List.mem_cons_self, by rw [hf, z]⟩)
    have nI : sI.heap.get? a = none := by
      cases q : sI.heap.get? a with
      | none => rfl
      | some o =>
        have z := nb a o q (by rw [hs]; exact nfr)
        rw [fl3.2.1] at z
        cases z
    have n0 : X.s_0.heap.get? a = none := by
      cases q : X.s_0.heap.get? a with
      | none => rfl
      | some o =>
        obtain ⟨o', z⟩ := J.base.there a o q (by rw [hex]; exact fun z => nomatch z)
        rw [nI] at z
        cases z
    have nP : ∀ p ∈ X.pn ++ pins, p.1 ≠ a := fun p hp z => by
      have q := (J.pin p hp).1
      rw [z, nI] at q
      cases q
    refine wpAny_handleBy_cons (codeAny_handlers_test ?_) (by intro q; cases q)
    have kind : PySem.W.Looks (model X.prog X.w) h3 (typeOf (.ref a)) cls := fun A Q E t k q => wpAny_typeOf_ref (k _ _ he3) (by rw [hz3.1]; exact q)
    have fits := PySem.W.exm_one (M := model X.prog X.w) J3.kIn kind hb1
    have named : ∀ {Q : Value → Shared → Prop} {E : Value → Shared → Prop}, Q c { s' with heap := h3 } → wpAny (model X.prog X.w) (X.A.mark (some (.ref a))) (eval (.Name x np) X.env) Q E { s' with heap := h3 } := fun {Q E} q => by
      obtain ⟨hg, hdbg, hm | ⟨hm, hv, hnn⟩⟩ := hc
      · exact ld_glob (X := mrk X a (X.pn ++ pins)) (Inv.mrk J3 a) hg hm q hdbg
      · exact ld_blt (X := mrk X a (X.pn ++ pins)) (Inv.mrk J3 a) hg hm hv q hnn hdbg
    refine named (fits.here ?_)
    cases b with
    | true =>
      obtain ⟨A, rfl, keep_⟩ := yes rfl
      refine codeAny_handlers_suite_as (HandSPX.lands_againZ fl3 fun h4 fl4 up4 => ?_)
      have J4 : L2.Inv X pins σ2 H2 { s' with heap := h4 } := J.landed nb fl4.1 ((up.trans up3).trans up4) os ag
      obtain ⟨oe4, vs4, he4, hz4, hd4⟩ := fl4.there
      have J5 : L2.Inv X pins σ2 (upd H2 a (ExcO a A d)) { s' with heap := h4 } := by
        refine Inv.track J4 n0 na nL (fun y c e z => ?_) nP ⟨⟨oe4, vs4, he4, hd4, hz4⟩, ⟨oe4, he4⟩, fun g1 g2 ⟨o, vs, e1, e2, e3⟩ st => ⟨o, vs, st _ e1, e2, e3⟩⟩
        obtain ⟨v, o, e1, e2⟩ := J4.cell y c e
        rw [z] at e1
        have e1 : h4.get? a = some o := e1
        rw [he4] at e1
        cases e1
        rw [hd4] at e2
        cases e2
      refine store_ok (X := mrk X a (X.pn ++ pins)) (v := .ref a) (Inv.mrk J5 a) hN hi (.inl hln) rfl (fun s5 S5 => ?_) (.inr hln)
      have suite := pss_one (ps_set (X := mrk X a (X.pn ++ pins)) (pos := ap) hN hj (.inl hly) (pe_var (X := mrk X a (X.pn ++ pins)) (pos := vp) hi (.inl hln) hdn hcn) hsw (.inr hly))
      have len2 : i < σ2.length := by rw [J.len]; exact (List.getElem?_eq_some_iff.mp hi).1
      refine wpAny_mono (suite.run [] s5 _ _ { nx := fun σ' H' => D.nx (σ'.set i none) H', rt := D.rt, bk := fun _ _ => False, ct := fun _ _ => False } S5 ⟨.ref a, by rw [List.getElem?_set_self len2], keep_ a na⟩) (fun fl s6 hsp => ?_) (fun _ _ z => False.elim z)
      cases fl with
      | next =>
        obtain ⟨σ6, H6, S6, q6⟩ := hsp
        exact gone_ok (Inv.unmrk S6 ok) hN hi hln fun s7 J7 => ⟨_, _, J7, q6⟩
      | brk =>
        obtain ⟨_, _, _, z⟩ := hsp
        exact False.elim z
      | cont =>
        obtain ⟨_, _, _, z⟩ := hsp
        exact False.elim z
      | ret u =>
        obtain ⟨v6, σ6, H6, S6, r6, q6⟩ := hsp
        exact gone_ok (Inv.unmrk S6 ok) hN hi hln fun s7 J7 => ⟨_, _, _, J7, r6, q6⟩
    | false =>
      show wpAny _ X.A (handleBy (.ref a) X.env []) _ _ _
      refine wpAny_handleBy_nil ?_
      obtain ⟨k1, k2, k3, oe, vs, T', oT, ts', he, hz, hd, h1, hr⟩ := id fl3
      unfold PySem.passOn
      refine wpAny_bind (wpAny_field he hd h1 ?_)
      rw [if_neg (show ¬ ((Value.ref T' == Value.none) = true) from by simp)]
      have off : wpAny (model X.prog X.w) X.A (setFlight (.ref a) X.env.frame) (fun _ t4 => wpAny (model X.prog X.w) X.A (throw (.ref a) : Sem Flow) (SP X pins D) X.xe t4) X.xe { s' with heap := h3 } := by
        rw [hf]
        refine HandSPX.setFlight_upZ fl3 fun h4 hh4 up4 => wpAny_throw (tk _ _ ?_)
        exact ⟨a, B, sI, pins, σ2, H2, cls, d, rfl, J, nb, (up.trans up3).trans up4, .inr (.inr (by rw [hs]; exact hh4)), na, os, ag, no rfl⟩
      first
        | exact wpAny_bind (wpAny_pure (wpAny_bind off))
        | exact wpAny_bind off
  · cases fl with
    | next =>
      obtain ⟨σ2, H2, J2, q⟩ := done
      exact wpAny_execs_nil ⟨σ2, H2, J2.ofTry ok, q⟩
    | brk =>
      obtain ⟨σ2, H2, J2, q⟩ := done
      exact ⟨σ2, H2, J2.ofTry ok, q⟩
    | cont =>
      obtain ⟨σ2, H2, J2, q⟩ := done
      exact ⟨σ2, H2, J2.ofTry ok, q⟩
    | ret u =>
      obtain ⟨v, σ2, H2, J2, r, q⟩ := done
      exact ⟨v, σ2, H2, J2.ofTry ok, r, q⟩
end
def catchS (xm : Nat → Option Bool) (i j : Nat) : Fl → T Fl
  | .ex e env => (match e with
    | .exc c [] => (match xm c with
      | some true => .ret (.nx (((env.set i (some (.fz (.exc c [])))).set j (some (.fz (.exc c [])))).set i none))
      | some false => .ret (.ex (.exc c []) env)
      | none => .fail)
    | _ => .fail)
  | r => .ret r
def tryS (xm : Nat → Option Bool) (i j : Nat) (m : Env → T Fl) : Env → T Fl := fun env => (m env).bind (catchS xm i j)
section
variable {X : Cx} {G : GC} {W : WX} {xm : Nat → Option Bool} {x n y : Str} {c : Value} {i j : Nat} {body : List Stmt} {np yp vp ap pos pos' : Pos} {m : Env → T Fl}
theorem try_read {E : Ends} {σ : St} {H : Hp} (hk : X.K = G.K) (hx : ∀ k A b, xm k = some b → G.cA k = some A → PySem.W.exmOne G.K (.ref A) c = some b) (h : tS G W (tryS xm i j m) E σ H) : tS G (wKeep X.K c i j W E) m E σ H := by
  obtain ⟨C, n, env, us, h⟩ := h
  refine ⟨C, n, env, us, h.ok, T.wp_mono (T.wp_bind h.wp) (fun r n' _ z C' H' us' st hu => ?_) (fun _ _ _ z => z)⟩
  cases r with
  | nx env' => exact z C' H' us' st hu
  | rt d => exact z C' H' us' st hu
  | ro o => exact z C' H' us' st hu
  | bk env' => exact z C' H' us' st hu
  | ct env' => exact z C' H' us' st hu
  | ex e env' =>
    intro σ' cls dx ok rx
    obtain ⟨k, A, rfl, hA, rfl, rfl⟩ := rx
    replace z : T.wp (match xm k with
      | some true => T.ret (Fl.nx (((env'.set i (some (.fz (.exc k [])))).set j (some (.fz (.exc k [])))).set i none))
      | some false => T.ret (Fl.ex (.exc k []) env')
      | none => T.fail) n' (fun r n' => ∀ C' H' us', Step us C H C' H' → (∀ a ∈ us', a ∈ us ∨ H a = none) → FlP G W C' n' H' us' E r) (fun _ _ => False) := z
    rw [hk]
    cases q : xm k with
    | none => rw [q] at z; exact False.elim z
    | some b =>
      rw [q] at z
      cases b with
      | false => exact ⟨false, hx k A _ q hA, (fun z => by cases z), fun _ => z C' H' us' st hu σ' _ _ ok ⟨k, A, rfl, hA, rfl, rfl⟩⟩
      | true =>
        refine ⟨true, hx k A _ q hA, fun _ => ⟨A, rfl, fun a ha => ?_⟩, fun z => by cases z⟩
        have st1 := step_tup (C := C') (o := ExcO a A none) ha
        have ok1 := ok.q st1 (ok.wf.tup ha)
        have re : Rep G C' (upd H' a (ExcO a A none)) (.ref a) (.exc k []) := .exc upd_same hA
        obtain ⟨us1, ok2, sb1⟩ := ok1.put re i
        obtain ⟨us2, ok3, sb2⟩ := ok2.put re j
        obtain ⟨us3, er, sl⟩ := ok3.env.wipe i none
        have ok4 := ok3.sub er sl
        have sub : ∀ b ∈ us3, b ∈ us' := fun b m => sb1 b (sb2 b (sl.subset m))
        exact z C' _ us3 (st.trans st1 (by simp)) (fun b m => hu b (sub b m)) _ ok4
theorem st_try (hk : X.K = G.K) (hx : ∀ k A b, xm k = some b → G.cA k = some A → PySem.W.exmOne G.K (.ref A) c = some b) (hs : X.stack = X.env :: X.outer) (hf : X.env.frame = some X.env.locals) (hex : X.ex = []) (hN : X.N.Nodup) (hi : X.N[i]? = some n) (hln : X.env.kindOf n = some .local) (hj : X.N[j]? = some y) (hly : X.env.kindOf y = some .local) (hc : Names X x c) (tk : Takes X W)
    (hb : ∀ (W : WX) (pn : List (Addr × Obj)) (xe : Value → Shared → Prop), Takes (X.tr pn xe) W → PassesOwn (model X.prog X.w) X.A X.env xe → PSs (X.tr pn xe) body (tS G W m))
    (hdn : (n == ("__debug__" : Str)) = false := by decide) (hcn : (n == ("__classdict__" : Str)) = false := by decide)
    (hsw : swapsWith (.Name n vp) (some (.Name y yp)) ap.line X.env = pure false := by rfl) :
    PS X (.Try body [.ExceptHandler (some (.Name x np)) (some n) [.Assign [.Name y yp] (.Name n vp) ap] pos'] [] [] pos) (tS G W (tryS xm i j m)) :=
  PS.imp (ps_keep (tb := fun W => tS G W m) hs hf hex hN hi hln hj hly hc tk hdn hcn hsw fun W pn xe tk hp => hb W pn xe tk hp) fun E σ H h => try_read hk hx h
end
end Pu
set_option Elab.async false
set_option linter.all false
set_option maxRecDepth 100000
set_option maxHeartbeats 4000000
namespace Pu
open PySem L2 Stp NdefX LamX
open PyProof.Rows hiding St
/-! ### raise X('..') -/
def raiseS (c : Nat) : Env → T Fl := fun env => .ret (.ex (.exc c []) env)
/-- what an own exception class without an __init__ has -/
structure RaiC (K : PySem.W.Frag) (bm : List Value) (newId : String) (A : Addr) : Prop where
  ex : PySem.W.excIn K A bm newId = true
  kp : PySem.W.keepIn K (.ref A) = true
  sb : PySem.W.subIn K (.ref A) (.type "BaseException") = some true
  ty : PySem.W.typeIn K (.ref A) = some (.type "type")
section
variable {X : Cx} {G : GC} {W : WX} {c : Nat} {A : Addr} {x m : Str} {j : Nat} {p p2 pos pos' : Pos} {bm : List Value} {B newId initId : String}
theorem st_raise (hk : X.K = G.K) (hc : X.calm = true) (tk : Takes X W) (F : ExcBaseFacts B newId initId bm) (R : RaiC G.K bm newId A) (hA : G.cA c = some A) (hg : Gl X x) (gC : X.mg x = some (.ref A)) (hdb : (x == ("__debug__" : Str)) = false := by decide) :
    PS X (.Raise (some (.Call (.Name x p) [.Constant (.str m) j p2] [] pos)) none pos') (tS G W (raiseS c)) := by
  refine PS.imp (ps_raise hc tk (pmk_own F (by rw [hk]; exact R.ex) gC (by rw [hk]; exact R.kp) (raises_own (by rw [hk]; exact R.sb) (by rw [hk]; exact R.ty)) hg hdb)) fun E σ H h => ?_
  obtain ⟨C, n, env, us, h⟩ := h
  exact h.ret0 σ _ _ h.ok ⟨c, A, rfl, hA, rfl, rfl⟩
end
/-! ### draws -/
def drawF : List D → T D
  | [.pen, .int u] => if 0 < u ∧ u < 1073741824 then .draw u.toNat fun d => .ret (.int d) else .fail
  | _ => .fail
section
variable {P : Program} {w : World} {K : PySem.W.Frag} {mg : Str → Option Value} {base : Heap} {G : GC} {k : Nat} {f : Addr} {fd : FuncData} {ps : List Str}
theorem fn_cx {sp : Sp} (F : FnOk P w K mg base C8.CX0 k f fd ps sp) : FnOk P w K mg base (L2.CX P w) k f fd ps sp :=
  ⟨F.len, fun A outer s H args us vs Q E hr e0 hb r q => codeAny_mono (F.run A outer s H args us vs Q E hr e0 hb r q) fun r s' h => by
    cases r with
    | error e => exact False.elim h
    | ok fl => cases fl <;> exact h⟩
theorem step_but {C : Cf} {n : Nat} {H H' : Hp} {p c : Addr} (w : Wf G C n H) (hp : C.pen = some (p, c)) (b : But p H H') (P' : PenAt H' p c (n + 1)) : Step [] C H C H' ∧ Wf G C (n + 1) H' := by
  have pa : C.pa = [p, c] := by unfold Cf.pa; rw [hp]
  obtain ⟨cs, i, r, P, _⟩ := w.pen p c hp
  have ne : ∀ a o, H a = some o → (∀ xs, o ≠ .lst xs) → a ≠ p := fun a o e q z => by
    rw [z, P.pen] at e
    cases e
    exact q _ rfl
  refine ⟨⟨fun a o e _ _ na => b a o (fun z => na (by rw [pa, z]; exact List.mem_cons_self ..)) e, fun a o e => ?_, ⟨fun a o f e _ => ⟨f, b a o (fun z => (w.fz a f).2 (by rw [pa, z]; exact List.mem_cons_self ..)) e⟩, fun a xs e => b a _ (ne a _ e fun _ z => by cases z) e, fun a o u e => b a _ (ne a _ e fun _ z => by cases z) e, fun a φ e => b a _ (ne a _ e fun _ z => by cases z) e, fun _ h => h⟩, fun a h => .inl h, fun a h => .inl h, rfl⟩, ⟨fun p' c' e => ?_, fun a h => ?_, fun q hq => ?_⟩⟩
  · by_cases ha : a = p
    · rw [ha]
      exact P'.atP
    · exact ⟨o, b a o ha e⟩
  · rw [hp] at e
    cases e
    exact P'
  · obtain ⟨⟨o, e, t⟩, np⟩ := w.fz a h
    exact ⟨⟨o, b a o (fun z => np (by rw [pa, z]; exact List.mem_cons_self ..)) e, t⟩, np⟩
  · obtain ⟨qs, h1, h2, h3⟩ := w.tab q hq
    refine ⟨qs, b _ _ (ne _ _ h1 fun _ z => by cases z) h1, h2, fun pos cv hc => ?_⟩
    obtain ⟨c2, e1, e2⟩ := h3 pos cv hc
    exact ⟨c2, e1, b _ _ (ne _ _ e2 fun _ z => by cases z) e2⟩
theorem fn_draw (F : FnOk P w K mg base (L2.CX P w) k f fd ["_law_pen_here", "_law_under"] spDraw) : FnOk P w K mg base (L2.CX P w) k f fd ["_law_pen_here", "_law_under"] (spM G 2 drawF) := by
  refine F.imp fun vs H Q E h => ?_
  obtain ⟨C, n, ds, wf, rl, hl, w⟩ := h
  cases rl with
  | nil => cases hl
  | cons r1 rl =>
    cases rl with
    | nil => cases hl
    | cons r2 rl =>
      cases rl with
      | cons _ _ => cases hl
      | nil =>
        cases r1 <;> try exact False.elim w
        case pen p c hp =>
          cases r2 <;> try exact False.elim w
          case int u =>
            replace w : T.wp (if 0 < u ∧ u < 1073741824 then T.draw u.toNat fun d => .ret (D.int d) else .fail) n _ _ := w
            by_cases hu : 0 < u ∧ u < 1073741824
            · rw [if_pos hu] at w
              obtain ⟨_, _, hn, w⟩ := w
              refine ⟨p, c, u, n, rfl, wf.pen p c hp, hn, hu.1, hu.2, fun H' d b P' h0 h1 => ?_⟩
              obtain ⟨st, wf'⟩ := step_but wf hp b P'
              have z := w d.toNat (by omega)
              have e : ((d.toNat : Nat) : Int) = d := Int.toNat_of_nonneg h0
              exact z C H' (.int d) st wf' (by rw [e]; exact .int d)
            · rw [if_neg hu] at w; exact False.elim w
end
end Pu
set_option Elab.async false
set_option linter.all false
set_option maxRecDepth 100000
set_option maxHeartbeats 4000000
namespace Pu
open PySem L2 Stp NdefX LamX
open PyProof.Rows hiding St
/-! ### repr -/
def kP : Key → PyData
  | .inl i => .int i
  | .inr x => .str x
mutual
def D.pr : D → Option PyData
  | .non => some .none
  | .bl b => some (.bool b)
  | .int i => some (.int i)
  | .str x => some (.str x)
  | .tup xs => (D.prL xs).map .tuple
  | .wt xs => (D.prL xs).map .tuple
  | .lst xs => (D.prL xs).map .list
  | .dK kvs => (D.prK kvs).map .dict
  | .dT kvs => (D.prT kvs).map .dict
  | _ => none
def D.prL : List D → Option (List PyData)
  | [] => some []
  | x :: xs => match D.pr x, D.prL xs with
    | some a, some b => some (a :: b)
    | _, _ => none
def D.prK : List (Key × D) → Option (List (PyData × PyData))
  | [] => some []
  | (k, x) :: xs => match D.pr x, D.prK xs with
    | some a, some b => some ((kP k, a) :: b)
    | _, _ => none
def D.prT : List (List Key × D) → Option (List (PyData × PyData))
  | [] => some []
  | (k, x) :: xs => match D.pr x, D.prT xs with
    | some a, some b => some ((.tuple (k.map kP), a) :: b)
    | _, _ => none
end
theorem pr_cons {a : Option PyData} {b : Option (List PyData)} {zs : List PyData} (e : (match a, b with | some x, some y => some (x :: y) | _, _ => none) = some zs) : ∃ x y, a = some x ∧ b = some y ∧ zs = x :: y := by
  cases a with
  | none => cases e
  | some x =>
    cases b with
    | none => cases e
    | some y => cases e; exact ⟨x, y, rfl, rfl, rfl⟩
theorem prk_cons {k : PyData} {a : Option PyData} {b : Option (List (PyData × PyData))} {zs : List (PyData × PyData)} (e : (match a, b with | some x, some y => some ((k, x) :: y) | _, _ => none) = some zs) : ∃ x y, a = some x ∧ b = some y ∧ zs = (k, x) :: y := by
  cases a with
  | none => cases e
  | some x =>
    cases b with
    | none => cases e
    | some y => cases e; exact ⟨x, y, rfl, rfl, rfl⟩
theorem pr_map {α : Type} {f : α → PyData} {a : Option α} {z : PyData} (e : a.map f = some z) : ∃ x, a = some x ∧ z = f x := by
  cases a with
  | none => cases e
  | some x => cases e; exact ⟨x, rfl, rfl⟩
theorem keys_read {h : Heap} : ∀ {ks : List Key} {us : List Value}, Vals (ks.map kV) us → ReadsAll h us (ks.map kP) []
  | [], _, .nil => .nil
  | .inl i :: ks, _, .cons (b := u) r l => by
    obtain ⟨t, rfl⟩ := (show ∃ t, u = Value.int i t from r)
    exact ReadsAll.cons (as := []) (bs := []) (.int i t) (keys_read l)
  | .inr x :: ks, _, .cons (b := u) r l => by
    obtain ⟨t, rfl⟩ := (show ∃ t, u = Value.str x t from r)
    exact ReadsAll.cons (as := []) (bs := []) (.str x t) (keys_read l)
/-- the value u shows x: it is read so, and repr tells it -/
def Shw (P : Program) (w : World) (h : Heap) (u : Value) (x : PyData) : Prop := ∃ as, Reads h u x as ∧ (x.showable = true → x.shown.length ≤ sizeLine → ∃ bs, ReadAtMost h x.depth bs ∧ ReprK P w bs h x.depth u x.shown)
def ShwL (P : Program) (w : World) (h : Heap) (us : List Value) (xs : List PyData) : Prop := ∃ as, ReadsAll h us xs as ∧ (PyData.showableAll xs = true → (∀ t ∈ PyData.shownAll xs, t.length ≤ sizeLine) → ∃ bs, ReadAtMost h (PyData.depthAll xs) bs ∧ ReprAllK P w bs h (PyData.depthAll xs) us (PyData.shownAll xs))
section
variable {P : Program} {w : World} {h : Heap}
theorem Shw.flat {u : Value} {x : PyData} (r : Reads h u x []) : Shw P w h u x := ⟨[], r, fun h1 h2 => ReprK.of_reads r h1 (fun _ => by simp) h2⟩
theorem ShwL.nil : ShwL P w h [] [] := ⟨[], .nil, fun _ _ => ⟨[], (fun _ h => nomatch h), by simp only [PyData.shownAll]; exact .nil⟩⟩
theorem ShwL.cons {u : Value} {x : PyData} {us : List Value} {xs : List PyData} (a : Shw P w h u x) (b : ShwL P w h us xs) : ShwL P w h (u :: us) (x :: xs) := by
  obtain ⟨as, r1, k1⟩ := a
  obtain ⟨bs, r2, k2⟩ := b
  refine ⟨as ++ bs, .cons r1 r2, fun hs hz => ?_⟩
  obtain ⟨hs1, hs2⟩ : x.showable = true ∧ PyData.showableAll xs = true := by simpa [PyData.showableAll] using hs
  obtain ⟨c1, m1, z1⟩ := k1 hs1 (hz _ (by simp only [PyData.shownAll]; exact List.mem_cons_self ..))
  obtain ⟨c2, m2, z2⟩ := k2 hs2 fun t ht => hz t (by simp only [PyData.shownAll]; exact List.mem_cons_of_mem _ ht)
  refine ⟨c1 ++ c2, fun b hb => ?_, ?_⟩
  · simp only [PyData.depthAll]
    rcases List.mem_append.mp hb with y | y
    · obtain ⟨d, es, q1, q2⟩ := m1 b y
      exact ⟨d, es, q1, Nat.le_trans q2 (Nat.le_max_left _ _)⟩
    · obtain ⟨d, es, q1, q2⟩ := m2 b y
      exact ⟨d, es, q1, Nat.le_trans q2 (Nat.le_max_right _ _)⟩
  · simp only [PyData.depthAll, PyData.shownAll]
    exact .cons ((z1.more fun b y => List.mem_append_left _ y).level_le (Nat.le_max_left _ _)) (z2.more_le (fun b y => List.mem_append_right _ y) (Nat.le_max_right _ _))
theorem Shw.list {a : Addr} {o : Obj} {its : Array Value} {n : Nat} {xs : List PyData} (h1 : h.get? a = some o) (h2 : o.cls = .type "list") (h3 : o.data = .seq its n) (k : ShwL P w h its.toList xs) : Shw P w h (.ref a) (.list xs) := by
  obtain ⟨as, r, k⟩ := k
  have rr : Reads h (.ref a) (.list xs) (a :: as) := .list h1 h2 h3 r
  refine ⟨_, rr, fun hs hz => ?_⟩
  have hz2 : (listText (PyData.shownAll xs)).length ≤ sizeLine := by simpa only [PyData.shown] using hz
  obtain ⟨bs, hb, z⟩ := k (by simpa [PyData.showable] using hs) fun t ht => Nat.le_trans (listText_mem_le ht) hz2
  have na : a ∉ bs := not_mem_of_deeper rr (by simp only [PyData.depth]; omega) hb
  refine ⟨a :: bs, ReadAtMost.cons rr (by simp only [PyData.depth]; omega) hb, ?_⟩
  simp only [PyData.depth, PyData.shown]
  obtain ⟨l⟩ := its
  cases l with
  | nil =>
    have r : ReadsAll h [] xs as := r
    cases r
    simp only [PyData.shownAll, listText_nil]
    exact ReprK.listEmpty h1 h2 h3
  | cons y l => exact ReprK.list h1 h2 h3 na (by simpa using z.length_eq) fun i y e => z.item i y (by simpa using e)
theorem Shw.tuple {a : Addr} {o : Obj} {its : Array Value} {n : Nat} {xs : List PyData} (h1 : h.get? a = some o) (h2 : o.cls = .type "tuple") (h3 : o.data = .seq its n) (k : ShwL P w h its.toList xs) : Shw P w h (.ref a) (.tuple xs) := by
  obtain ⟨as, r, k⟩ := k
  have rr : Reads h (.ref a) (.tuple xs) as := .tuple h1 h2 h3 r
  refine ⟨_, rr, fun hs hz => ?_⟩
  have hz2 : (tupleText (PyData.shownAll xs)).length ≤ sizeLine := by simpa only [PyData.shown] using hz
  obtain ⟨bs, hb, z⟩ := k (by simpa [PyData.showable] using hs) fun t ht => Nat.le_trans (tupleText_mem_le ht) hz2
  have na : a ∉ bs := not_mem_of_deeper rr (by simp only [PyData.depth]; omega) hb
  refine ⟨a :: bs, ReadAtMost.cons rr (by simp only [PyData.depth]; omega) hb, ?_⟩
  simp only [PyData.depth, PyData.shown]
  exact ReprK.tuple h1 h2 h3 na z
theorem Shw.dict {a : Addr} {o : Obj} {es : Array DictEntry} {n : Nat} {kvs : List (PyData × PyData)} (h1 : h.get? a = some o) (h2 : o.cls = .type "dict") (h3 : o.data = .dict es n) (ns : (a == sysModules) = false) (kk : ShwL P w h (es.toList.map (·.key)) (kvs.map (·.1))) (kv : ShwL P w h (es.toList.map (·.val)) (kvs.map (·.2))) : Shw P w h (.ref a) (.dict kvs) := by
  obtain ⟨as, r1, k1⟩ := kk
  obtain ⟨bs, r2, k2⟩ := kv
  have rr : Reads h (.ref a) (.dict kvs) (a :: as ++ bs) := .dict h1 h2 h3 r1 r2
  refine ⟨_, rr, fun hs hz => ?_⟩
  have hz2 : (dictText (PyData.shownKv kvs)).length ≤ sizeLine := by simpa only [PyData.shown] using hz
  obtain ⟨hs1, hs2⟩ := PyData.showableKv_split kvs (by simpa [PyData.showable] using hs)
  obtain ⟨c1, m1, z1⟩ := k1 hs1 fun t ht => by
    obtain ⟨p, hp, hl⟩ := PyData.shownKv_key_le kvs t ht
    exact Nat.le_trans hl (Nat.le_trans (dictText_mem_le hp) hz2)
  obtain ⟨c2, m2, z2⟩ := k2 hs2 fun t ht => by
    obtain ⟨p, hp, hl⟩ := PyData.shownKv_val_le kvs t ht
    exact Nat.le_trans hl (Nat.le_trans (dictText_mem_le hp) hz2)
  have hb : ReadAtMost h (PyData.depthKv kvs) (c1 ++ c2) := (m1.mono (PyData.depthAll_keys_le kvs)).append (m2.mono (PyData.depthAll_vals_le kvs))
  have na : a ∉ c1 ++ c2 := not_mem_of_deeper rr (by simp only [PyData.depth]; omega) hb
  refine ⟨a :: (c1 ++ c2), ReadAtMost.cons rr (by simp only [PyData.depth]; omega) hb, ?_⟩
  simp only [PyData.depth, PyData.shown, PyData.shownKv_eq]
  exact ReprK.dict h1 h2 h3 ns na (ReprEntriesK.of_two es.toList _ _ (z1.more_le (fun b y => List.mem_append_left _ y) (PyData.depthAll_keys_le kvs)) (z2.more_le (fun b y => List.mem_append_right _ y) (PyData.depthAll_vals_le kvs)))
theorem keys_show {ks : List Key} {us : List Value} (r : Vals (ks.map kV) us) : ShwL P w h us (ks.map kP) :=
  ⟨[], keys_read r, fun h1 h2 => ReprAllK.of_readsAll (keys_read r) h1 (fun _ => by simp) h2⟩
end
section
variable {X : Cx} {pins : List (Addr × Obj)} {σ : St} {H : Hp} {s : Shared} {G : GC} {C : Cf}
mutual
theorem Rep.shows (hk : X.K = G.K) (I : Inv X pins σ H s) : ∀ {v : V} {d : D} {u : Value} {x : PyData}, Rep G C H v d → RelV v u → d.pr = some x → Shw X.prog X.w s.heap u x
  | _, _, u, _, .non, r, e => by cases e; cases (show u = Value.none from r); exact .flat .none
  | _, _, u, _, .bl b, r, e => by cases e; cases (show u = Value.bool b from r); exact .flat (.bool b)
  | _, _, u, _, .int i, r, e => by cases e; obtain ⟨t, rfl⟩ := (show ∃ t, u = Value.int i t from r); exact .flat (.int i t)
  | _, _, u, _, .str y, r, e => by cases e; obtain ⟨t, rfl⟩ := (show ∃ t, u = Value.str y t from r); exact .flat (.str y t)
  | _, _, u, x, .tup (a := a) (ds := ds) h l, r, e => by
    obtain ⟨xs, e1, rfl⟩ := pr_map (show (D.prL ds).map PyData.tuple = some x from e)
    cases (show u = Value.ref a from r)
    obtain ⟨_, its, rv, o, h1, h2, n, h3⟩ := (show ObjOk X.prog X.w H s.heap a _ from I.hok a _ h)
    exact .tuple h1 h2 h3 (RepL.shows hk I l rv e1)
  | _, _, u, x, .wt (a := a) (vs := vs) (ds := ds) h l, r, e => by
    obtain ⟨xs, e1, rfl⟩ := pr_map (show (D.prL ds).map PyData.tuple = some x from e)
    cases (show u = Value.ref a from r)
    rcases h with (h | ⟨o, h⟩) | ⟨o, its, n, h1, h2, h3, _, rv⟩
    · cases h
    · cases h
    · exact .tuple (I.kIn a o (by rw [hk]; exact h1)) h2 h3 (RepL.shows hk I l rv e1)
  | _, _, u, x, .lst (a := a) (ds := ds) f h l, r, e => by
    obtain ⟨xs, e1, rfl⟩ := pr_map (show (D.prL ds).map PyData.list = some x from e)
    cases (show u = Value.ref a from r)
    obtain ⟨_, its, n, rv, h1⟩ := (show ObjOk X.prog X.w H s.heap a _ from I.hok a _ h)
    exact .list h1 rfl rfl (RepL.shows hk I l rv e1)
  | _, _, u, x, .dK (a := a) (ds := ds) f h l, r, e => by
    obtain ⟨xs, e1, rfl⟩ := pr_map (show (D.prK ds).map PyData.dict = some x from e)
    cases (show u = Value.ref a from r)
    obtain ⟨_, na, vs', rv, o, es, ep, h1, h2, h3, _, hp, _⟩ := (show ObjOk X.prog X.w H s.heap a _ from I.hok a _ h)
    obtain ⟨q0, q1⟩ := RepK.shows hk I l rv hp e1
    exact .dict h1 h2.1 h3 na q0 q1
  | _, _, u, x, .dT (a := a) (ds := ds) f h l, r, e => by
    obtain ⟨xs, e1, rfl⟩ := pr_map (show (D.prT ds).map PyData.dict = some x from e)
    cases (show u = Value.ref a from r)
    obtain ⟨_, na, ys, rv, o, es, ep, h1, h2, h3, h4, _⟩ := (show ObjOk X.prog X.w H s.heap a _ from I.hok a _ h)
    obtain ⟨q0, q1⟩ := RepT.shows hk I l rv e1
    exact .dict h1 h2.1 h3 na (by rw [h4]; exact q0) (by rw [h4]; exact q1)
  | _, _, _, _, .obj _ _ _ _, _, e => by cases e
  | _, _, _, _, .exc _ _, _, e => by cases e
  | _, _, _, _, .fn _ _, _, e => by cases e
  | _, _, _, _, .ty _, _, e => by cases e
  | _, _, _, _, .cls _, _, e => by cases e
  | _, _, _, _, .pen _, _, e => by cases e
  | _, _, _, _, .scr _, _, e => by cases e
theorem RepL.shows (hk : X.K = G.K) (I : Inv X pins σ H s) : ∀ {vs : List V} {ds : List D} {us : List Value} {xs : List PyData}, RepL G C H vs ds → Vals vs us → D.prL ds = some xs → ShwL X.prog X.w s.heap us xs
  | _, _, _, _, .nil, .nil, e => by cases e; exact .nil
  | _, _, _, xs, .cons (d := d) (ds := ds) r l, .cons rv t, e => by
    obtain ⟨y, ys, e1, e2, rfl⟩ := pr_cons (show (match D.pr d, D.prL ds with | some a, some b => some (a :: b) | _, _ => none) = some xs from e)
    exact .cons (Rep.shows hk I r rv e1) (RepL.shows hk I l t e2)
theorem RepK.shows (hk : X.K = G.K) (I : Inv X pins σ H s) : ∀ {vs : List (Key × V)} {ds : List (Key × D)} {us : List (Key × Value)} {es : List DictEntry} {xs : List (PyData × PyData)}, RepK G C H vs ds → KV vs us → Pairs (mixKind X.prog X.w) es us → D.prK ds = some xs → ShwL X.prog X.w s.heap (es.map (·.key)) (xs.map (·.1)) ∧ ShwL X.prog X.w s.heap (es.map (·.val)) (xs.map (·.2))
  | _, _, _, _, _, .nil, .nil, .nil, e => by cases e; exact ⟨.nil, .nil⟩
  | _, _, _, _, xs, .cons (k := k) (d := d) (ds := ds) r l, .cons rv t, .cons (e := en) h1 h2 p, e => by
    obtain ⟨y, ys, e1, e2, rfl⟩ := prk_cons (show (match D.pr d, D.prK ds with | some a, some b => some ((kP k, a) :: b) | _, _ => none) = some xs from e)
    obtain ⟨rk, rv⟩ := rv
    obtain ⟨q0, q1⟩ := RepK.shows hk I l t p e2
    refine ⟨?_, by rw [List.map_cons, List.map_cons, h2]; exact .cons (Rep.shows hk I r rv e1) q1⟩
    rw [List.map_cons, List.map_cons]
    refine .cons (.flat ?_) q0
    have h1 : keyIs _ en.key = true := h1
    rw [← rk] at h1
    rcases keyIs_shape h1 with ⟨i, t, e3, e4⟩ | ⟨x, t, e3, e4⟩
    · have e3 : k = _ := e3
      rw [e4, e3]; exact .int i t
    · have e3 : k = _ := e3
      rw [e4, e3]; exact .str x t
theorem RepT.shows (hk : X.K = G.K) (I : Inv X pins σ H s) : ∀ {vs : List (List Key × V)} {ds : List (List Key × D)} {us : List (List Key × Addr × Value)} {xs : List (PyData × PyData)}, RepT G C H vs ds → Paired (fun (p : List Key × V) (q : List Key × Addr × Value) => p.1 = q.1 ∧ H q.2.1 = some (.tup (p.1.map kV)) ∧ RelV p.2 q.2.2) vs us → D.prT ds = some xs → ShwL X.prog X.w s.heap ((us.map (entryOfKey (tupleKind (mixKind X.prog X.w)))).map (·.key)) (xs.map (·.1)) ∧ ShwL X.prog X.w s.heap ((us.map (entryOfKey (tupleKind (mixKind X.prog X.w)))).map (·.val)) (xs.map (·.2))
  | _, _, _, _, .nil, .nil, e => by cases e; exact ⟨.nil, .nil⟩
  | _, _, _, xs, .cons (k := k) (d := d) (ds := ds) r l, .cons rv t, e => by
    obtain ⟨y, ys, e1, e2, rfl⟩ := prk_cons (show (match D.pr d, D.prT ds with | some a, some b => some ((.tuple (k.map kP), a) :: b) | _, _ => none) = some xs from e)
    obtain ⟨rk, rt, rv⟩ := rv
    obtain ⟨q0, q1⟩ := RepT.shows hk I l t e2
    obtain ⟨_, its, rv2, o, g1, g2, n, g3⟩ := (show ObjOk X.prog X.w H s.heap _ _ from I.hok _ _ rt)
    exact ⟨.cons (.tuple g1 g2 g3 (by simpa using keys_show rv2)) q0, .cons (Rep.shows hk I r rv e1) q1⟩
end
end
end Pu
set_option Elab.async false
set_option linter.all false
set_option maxRecDepth 100000
set_option maxHeartbeats 4000000
namespace Pu
open PySem L2 Stp NdefX LamX
open PyProof.Rows hiding St
section
variable {P : Program} {w : World} {A : Around} {E : Value → Shared → Prop} {s : Shared} {a : Addr} {o : Obj} {Q : Value → Shared → Prop}
theorem top_list {its : Array Value} {n : Nat} {xs : List PyData} (h1 : s.heap.get? a = some o) (h2 : o.cls = .type "list") (h3 : o.data = .seq its n) (k : ShwL P w s.heap its.toList xs) (hs : PyData.showableAll xs = true) (hz : (listText (PyData.shownAll xs)).length ≤ sizeLine) (hg : A.guards = some []) (hu : A.units + (PyData.depthAll xs + 2) < cLine)
    (hQ : ∀ h' u tk, (∀ b o, s.heap.get? b = some o → h'.get? b = some o) → Q (.str (listText (PyData.shownAll xs)) u) { s with heap := h', toks := tk }) : wpAny (model P w) A (call (.builtin "repr") [.ref a]) Q E s := by
  obtain ⟨as, r, k⟩ := k
  have rr : Reads s.heap (.ref a) (.list xs) (a :: as) := .list h1 h2 h3 r
  obtain ⟨bs, hb, z⟩ := k hs fun t ht => Nat.le_trans (listText_mem_le ht) hz
  have na : a ∉ bs := not_mem_of_deeper rr (by simp only [PyData.depth]; omega) hb
  refine call_repr_slot (by omega) ⟨o, h1, h2⟩ F.slot_list_repr.toG ?_
  obtain ⟨l⟩ := its
  cases l with
  | nil =>
    have r : ReadsAll s.heap [] xs as := r
    cases r
    simp only [PyData.shownAll, listText_nil] at hQ
    exact call_list_repr_empty ⟨o, h1, h2⟩ h1 h3 ⟨_, _, rfl, hQ s.heap _ _ fun _ _ e => e⟩
  | cons y l =>
    exact call_list_reprK (A := A.in1) h1 h2 h3 na (by simpa using z.length_eq) (fun i y e => z.item i y (by simpa using e)) hg (fun b _ => Clear.nil b) (by show A.units + 1 + _ < cLine; omega) (fun _ _ e => e) (fun h' u tk q => ⟨_, _, rfl, hQ h' u tk q⟩) hz
theorem top_tuple {its : Array Value} {n : Nat} {xs : List PyData} (h1 : s.heap.get? a = some o) (h2 : o.cls = .type "tuple") (h3 : o.data = .seq its n) (k : ShwL P w s.heap its.toList xs) (hs : PyData.showableAll xs = true) (hz : (tupleText (PyData.shownAll xs)).length ≤ sizeLine) (hg : A.guards = some []) (hu : A.units + (PyData.depthAll xs + 2) < cLine)
    (hQ : ∀ h' u tk, (∀ b o, s.heap.get? b = some o → h'.get? b = some o) → Q (.str (tupleText (PyData.shownAll xs)) u) { s with heap := h', toks := tk }) : wpAny (model P w) A (call (.builtin "repr") [.ref a]) Q E s := by
  obtain ⟨as, r, k⟩ := k
  have rr : Reads s.heap (.ref a) (.tuple xs) as := .tuple h1 h2 h3 r
  obtain ⟨bs, hb, z⟩ := k hs fun t ht => Nat.le_trans (tupleText_mem_le ht) hz
  have na : a ∉ bs := not_mem_of_deeper rr (by simp only [PyData.depth]; omega) hb
  refine call_repr_slot (by omega) ⟨o, h1, h2⟩ F.slot_tuple_repr ?_
  exact call_tuple_reprK (A := A.in1) h1 h2 h3 na z hg (fun b _ => Clear.nil b) (by show A.units + 1 + _ < cLine; omega) (fun _ _ e => e) (fun h' u tk q => ⟨_, _, rfl, hQ h' u tk q⟩) hz
theorem top_dict {es : Array DictEntry} {n : Nat} {kvs : List (PyData × PyData)} (h1 : s.heap.get? a = some o) (h2 : o.cls = .type "dict") (h3 : o.data = .dict es n) (ns : (a == sysModules) = false) (kk : ShwL P w s.heap (es.toList.map (·.key)) (kvs.map (·.1))) (kv : ShwL P w s.heap (es.toList.map (·.val)) (kvs.map (·.2)))
    (hs : PyData.showableKv kvs = true) (hz : (dictText (PyData.shownKv kvs)).length ≤ sizeLine) (hg : A.guards = some []) (hu : A.units + (PyData.depthKv kvs + 2) < cLine)
    (hQ : ∀ h' u tk, (∀ b o, s.heap.get? b = some o → h'.get? b = some o) → Q (.str (dictText (PyData.shownKv kvs)) u) { s with heap := h', toks := tk }) : wpAny (model P w) A (call (.builtin "repr") [.ref a]) Q E s := by
  obtain ⟨as, r1, k1⟩ := kk
  obtain ⟨bs, r2, k2⟩ := kv
  have rr : Reads s.heap (.ref a) (.dict kvs) (a :: as ++ bs) := .dict h1 h2 h3 r1 r2
  obtain ⟨hs1, hs2⟩ := PyData.showableKv_split kvs hs
  obtain ⟨c1, m1, z1⟩ := k1 hs1 fun t ht => by
    obtain ⟨p, hp, hl⟩ := PyData.shownKv_key_le kvs t ht
    exact Nat.le_trans hl (Nat.le_trans (dictText_mem_le hp) hz)
  obtain ⟨c2, m2, z2⟩ := k2 hs2 fun t ht => by
    obtain ⟨p, hp, hl⟩ := PyData.shownKv_val_le kvs t ht
    exact Nat.le_trans hl (Nat.le_trans (dictText_mem_le hp) hz)
  have hb : ReadAtMost s.heap (PyData.depthKv kvs) (c1 ++ c2) := (m1.mono (PyData.depthAll_keys_le kvs)).append (m2.mono (PyData.depthAll_vals_le kvs))
  have na : a ∉ c1 ++ c2 := not_mem_of_deeper rr (by simp only [PyData.depth]; omega) hb
  refine call_repr_slot (by omega) ⟨o, h1, h2⟩ F.slot_dict_repr ?_
  have hE := ReprEntriesK.of_two es.toList _ _ (z1.more_le (fun b y => List.mem_append_left c2 y) (PyData.depthAll_keys_le kvs)) (z2.more_le (fun b y => List.mem_append_right c1 y) (PyData.depthAll_vals_le kvs))
  rw [← PyData.shownKv_eq] at hE
  exact call_dict_reprK (A := A.in1) h1 h2 h3 ns na hE hg (fun b _ => Clear.nil b) (by show A.units + 1 + _ < cLine; omega) (fun _ _ e => e) (fun h' u tk q => ⟨_, _, rfl, hQ h' u tk q⟩) hz
end
/-- what repr takes -/
def shwB (x : PyData) : Bool := x.showable && decide (x.depth ≤ 60) && decide (x.shown.length ≤ 1000000)
def reprF : List D → T D
  | [d] => (match d.pr with
    | some x => grd (shwB x = true) (.ret (.str x.shown))
    | none => .fail)
  | _ => .fail
section
variable {X : Cx} {G : GC} {W : WX} {b b1 : Bool} {e : Expr} {m : Env → T D} {p pos : Pos}
def rRepr (G : GC) : List V → Hp → VK → Prop := fun xs H Q => ∃ C v d x, xs = [v] ∧ Rep G C H v d ∧ d.pr = some x ∧ shwB x = true ∧ Q (.str x.shown) H
theorem call_repr (hk : X.K = G.K) (hg : X.A.guards = some []) (hu : X.A.units + 64 < cLine) : CallR X (.builtin "repr") (rRepr G) := by
  intro pins s σ H xs us Q I r h
  obtain ⟨C, v, d, x, rfl, rp, e, hx, q⟩ := h
  obtain ⟨u, rfl, ru⟩ := vals1 r
  unfold shwB at hx
  rw [Bool.and_eq_true, Bool.and_eq_true, decide_eq_true_eq, decide_eq_true_eq] at hx
  obtain ⟨⟨hs, hd⟩, hl⟩ := hx
  have hz : x.shown.length ≤ sizeLine := by rw [sizeLine_eq]; omega
  have fin : ∀ h' u' tk, (∀ b o, s.heap.get? b = some o → h'.get? b = some o) → EP X pins σ Q (.str x.shown u') { s with heap := h', toks := tk } := fun h' u' tk k => ⟨.str x.shown, H, I.kept k, ⟨_, rfl⟩, q⟩
  have fin0 : EP X pins σ Q (.str x.shown s.toks) { s with toks := s.toks + 1 } := fin s.heap _ _ fun _ _ e => e
  cases rp <;> try (cases e; done)
  case non => cases e; cases (show u = Value.none from ru); exact PySem.P.repr_of_none fin0
  case bl k => cases e; cases (show u = Value.bool k from ru); exact PySem.P.repr_of_bool fin0
  case int i => cases e; obtain ⟨t, rfl⟩ := (show ∃ t, u = Value.int i t from ru); exact PySem.P.repr_of_int (by simpa [PyData.showable] using hs) fin0
  case str y => cases e; obtain ⟨t, rfl⟩ := (show ∃ t, u = Value.str y t from ru); exact PySem.P.repr_of_str fin0 hz
  case tup a vs ds h l =>
    obtain ⟨xs, e1, rfl⟩ := pr_map (show (D.prL ds).map PyData.tuple = some x from e)
    cases (show u = Value.ref a from ru)
    obtain ⟨_, its, rv, o, h1, h2, n, h3⟩ := (show ObjOk X.prog X.w H s.heap a _ from I.hok a _ h)
    simp only [PyData.depth] at hd
    exact top_tuple h1 h2 h3 (RepL.shows hk I l rv e1) (by simpa [PyData.showable] using hs) (by simpa only [PyData.shown] using hz) hg (by omega) (by simpa only [PyData.shown] using fin)
  case wt a vs ds h l =>
    obtain ⟨xs, e1, rfl⟩ := pr_map (show (D.prL ds).map PyData.tuple = some x from e)
    cases (show u = Value.ref a from ru)
    simp only [PyData.depth] at hd
    rcases h with (h | ⟨o, h⟩) | ⟨o, its, n, h1, h2, h3, _, rv⟩
    · cases h
    · cases h
    · exact top_tuple (I.kIn a o (by rw [hk]; exact h1)) h2 h3 (RepL.shows hk I l rv e1) (by simpa [PyData.showable] using hs) (by simpa only [PyData.shown] using hz) hg (by omega) (by simpa only [PyData.shown] using fin)
  case lst a vs ds f h l =>
    obtain ⟨xs, e1, rfl⟩ := pr_map (show (D.prL ds).map PyData.list = some x from e)
    cases (show u = Value.ref a from ru)
    simp only [PyData.depth] at hd
    obtain ⟨_, its, n, rv, h1⟩ := (show ObjOk X.prog X.w H s.heap a _ from I.hok a _ h)
    exact top_list h1 rfl rfl (RepL.shows hk I l rv e1) (by simpa [PyData.showable] using hs) (by simpa only [PyData.shown] using hz) hg (by omega) (by simpa only [PyData.shown] using fin)
  case dK a vs ds f h l =>
    obtain ⟨xs, e1, rfl⟩ := pr_map (show (D.prK ds).map PyData.dict = some x from e)
    cases (show u = Value.ref a from ru)
    simp only [PyData.depth] at hd
    obtain ⟨_, na, vs', rv, o, es, ep, h1, h2, h3, _, hp, _⟩ := (show ObjOk X.prog X.w H s.heap a _ from I.hok a _ h)
    obtain ⟨q0, q1⟩ := RepK.shows hk I l rv hp e1
    exact top_dict h1 h2.1 h3 na q0 q1 (by simpa [PyData.showable] using hs) (by simpa only [PyData.shown] using hz) hg (by omega) (by simpa only [PyData.shown] using fin)
  case dT a vs ds f h l =>
    obtain ⟨xs, e1, rfl⟩ := pr_map (show (D.prT ds).map PyData.dict = some x from e)
    cases (show u = Value.ref a from ru)
    simp only [PyData.depth] at hd
    obtain ⟨_, na, ys, rv, o, es, ep, h1, h2, h3, h4, _⟩ := (show ObjOk X.prog X.w H s.heap a _ from I.hok a _ h)
    obtain ⟨q0, q1⟩ := RepT.shows hk I l rv e1
    exact top_dict h1 h2.1 h3 na (by rw [h4]; exact q0) (by rw [h4]; exact q1) (by simpa [PyData.showable] using hs) (by simpa only [PyData.shown] using hz) hg (by omega) (by simpa only [PyData.shown] using fin)
theorem s_repr (hk : X.K = G.K) (hgd : X.A.guards = some []) (hu : X.A.units + 64 < cLine) (hg : Gl X "repr") (hm : X.mg "repr" = none) (ha : PE X e (tQ G W b1 m)) (hs : starEach [e] X.env = (false, eval e X.env) :: starEach [] X.env := by rfl) (hpl : (backTo pos (starEach [] X.env)).any (·.1) = false := by rfl) :
    PE X (.Call (.Name "repr" p) [e] [] pos) (tQ G W false (qN reprF (aCons m aNil))) := by
  refine s_callB (call_repr hk hgd hu) (fun σ env us C n H vs ds Q r h => ?_) hg hm (by decide +kernel) (a_cons ha a_nil hs) (by decide) (by decide) hs hpl
  cases r with
  | nil => exact h.no.elim
  | @cons v vs d ds r1 l =>
    cases l with
    | cons _ _ => exact h.no.elim
    | nil =>
      replace h : At G W (rV G false) σ env us C n H (match d.pr with | some x => grd (shwB x = true) (.ret (D.str x.shown)) | none => .fail) Q := h
      cases q : d.pr with
      | none => rw [q] at h; exact h.no.elim
      | some x =>
        rw [q] at h
        obtain ⟨hx, h⟩ := h.grd
        exact ⟨_, v, d, x, rfl, r1, q, hx, h.ret (.str _)⟩
end
end Pu
set_option Elab.async false
set_option linter.all false
set_option maxRecDepth 100000
set_option maxHeartbeats 4000000
namespace Pu
open PySem L2 Stp NdefX LamX
open PyProof.Rows hiding St
/-! ### defs that show things: no guard is set around them -/
structure FnG (P : Program) (w : World) (K : PySem.W.Frag) (mg : Str → Option Value) (base : Heap) (k : Nat) (f : Addr) (fd : FuncData) (ps : List Str) (sp : Sp) : Prop where
  len : ∀ vs H Q E, sp vs H Q E → vs.length = ps.length
  run : ∀ (A : Around) (outer : List PySem.Env) (s : Shared) (H : Hp) (args : Args) (us : List Value) (vs : List V) (Q : VK) (E : XK), Room k A → A.guards = some [] → Env0 P w K mg base A outer s H → BindsTo s fd args (ps.zip us) → Vals vs us → sp vs H Q E →
    codeAny (model P w) A (.call (.ref f) args) (CR (L2.CX P w) outer P w H s Q E) s
section
variable {P : Program} {w : World} {K : PySem.W.Frag} {mg : Str → Option Value} {base : Heap} {G : GC} {k j : Nat} {f : Addr} {fd : FuncData} {ps : List Str} {sp : Sp}
theorem FnG.of (F : FnOk P w K mg base (L2.CX P w) k f fd ps sp) : FnG P w K mg base k f fd ps sp := ⟨F.len, fun A outer s H args us vs Q E hr _ => F.run A outer s H args us vs Q E hr⟩
theorem FnG.mono (F : FnG P w K mg base j f fd ps sp) (h : j ≤ k) : FnG P w K mg base k f fd ps sp := ⟨F.len, fun A outer s H args us vs Q E hr => F.run A outer s H args us vs Q E (hr.mono h)⟩
theorem fnG_of {x qual : Str} {st : Stmt} {N : List Str} (F : Fun K x qual st f fd) (S : FnScope N ps (defScope st)) (len : ∀ vs H Q E, sp vs H Q E → vs.length = ps.length)
    (hb : ∀ (cdv : Value) (A : Around) (outer : List PySem.Env) (s : Shared) (H : Hp) (vs : List V) (Q : VK) (E : XK), Room k (A.deeper (envOfC qual (defScope st) s.heap.objs.size f cdv)) → (A.deeper (envOfC qual (defScope st) s.heap.objs.size f cdv)).guards = some [] → sp vs H Q E →
      ∃ t, PSs (cxOf (L2.CX P w) P w K mg base N qual (defScope st) f cdv A outer s H E) (defBody st) t ∧ t { nx := fun _ H' => Q .non H', rt := Q } (L2.start N vs) H) : FnG P w K mg base (k + 1) f fd ps sp := by
  obtain ⟨oc, od, kV, doc, pm, an, cdv, ct, osl, rfl, lk, hcd⟩ := F.ex
  exact ⟨len, fun A outer s H args us vs Q E hr hg e0 b r h => run_ofS lk hcd S hr e0 b r (len _ _ _ _ h) fun hr' => hb cdv A outer s H vs Q E hr' hg h⟩
/-- a def by its body -/
theorem fnG_ok {x qual : Str} {st : Stmt} {N : List Str} {m : Env → T Fl} (F : Fun K x qual st f fd) (S : FnScope N ps (defScope st))
    (hb : ∀ (cdv : Value) (A : Around) (outer : List PySem.Env) (s : Shared) (H : Hp) (E : XK), Room k (A.deeper (envOfC qual (defScope st) s.heap.objs.size f cdv)) → (A.deeper (envOfC qual (defScope st) s.heap.objs.size f cdv)).guards = some [] →
      PSs (cxOf (L2.CX P w) P w K mg base N qual (defScope st) f cdv A outer s H E) (defBody st) (tS G (fun cls d _ H => E cls d H) m)) : FnG P w K mg base (k + 1) f fd ps (spM G ps.length (runF N.length m)) :=
  fnG_of F S (fun vs H Q E h => spM_len h) fun cdv A outer s H vs Q E hr hg h => ⟨_, hb cdv A outer s H E hr hg, sp_read h⟩
end
section
variable {X : Cx} {G : GC} {W : WX} {k : Nat} {f : Addr} {fd : FuncData} {ps : List Str} {x : Str} {p pos : Pos} {e : Expr} {es : List Expr} {ma : Env → T (List D)} {mf : List D → T D}
theorem run_g {pins : List (Addr × Obj)} {σ : St} {H : Hp} {s : Shared} {us : List Value} {vs : List V} {Q : VK} {sp : Sp} (tk : Takes X W) (F : FnG X.prog X.w X.K X.mg X.base k f fd ps sp) (hr : Room k X.A) (hgd : X.A.guards = some []) (hb : Binds X.K fd ps []) (I : Inv X pins σ H s) (r : Vals vs us) (q : sp vs H Q (WE W σ)) :
    wpAny (model X.prog X.w) X.A (call (.ref f) us) (EP X pins σ Q) X.xe s := by
  have hl := F.len _ _ _ _ q
  have b := hb s us I.kIn (by rw [List.append_nil, ← r.length]; exact hl)
  rw [List.append_nil] at b
  refine wpAny_call (codeAny_mono (F.run X.A X.stack s H ⟨us, []⟩ us vs Q (WE W σ) hr hgd I.env0 b r q) fun r s' hq => ?_)
  cases r with
  | error e => exact passAt tk σ pins H s e s' I hq
  | ok fl =>
    cases fl with
    | ret u => exact I.after hq
    | next => exact False.elim hq
    | brk => exact False.elim hq
    | cont => exact False.elim hq
theorem s_callG (tk : Takes X W) (F : FnG X.prog X.w X.K X.mg X.base k f fd ps (spM G ps.length mf)) (hr : Room k X.A) (hgd : X.A.guards = some []) (hg : Gl X x) (hm : X.mg x = some (.ref f)) (hk : PySem.W.keepIn X.K (.ref f) = true) (hb : Binds X.K fd ps [])
    (ha : PA X (e :: es) (tA G W false ma)) (hdb : (x == ("__debug__" : Str)) = false := by decide) (he : starEach (e :: es) X.env = (false, eval e X.env) :: starEach es X.env := by rfl) (hpl : (backTo pos (starEach es X.env)).any (·.1) = false := by rfl) :
    PE X (.Call (.Name x p) (e :: es) [] pos) (tQ G W false (qN (fun ds => grd (ds.length = ps.length) (mf ds)) ma)) := by
  refine ⟨fun pins s σ H Q I h => ?_⟩
  refine wpAny_Call_Name_kw (ld_glob I hg hm ?_ hdb)
  refine PySem.W.callWith_K (first := []) (h₀ := X.base) I.ok.mod.kin hk (thn (ha.run pos pins s σ H _ I (call_read (fun _ _ => .inr trivial) h)) fun us s2 ⟨vs, H2, I2, r2, q2⟩ => ⟨I2.kIn, ?_⟩) he hpl
  exact run_g tk F hr hgd hb I2 r2 q2
end
/-! ### the law -/
/-- the promise of a law's def: the script, the tables of the lambdas; what it runs as behind the pen is m -/
def spLaw (G : GC) : Sp := fun vs H Q _ => ∃ (a : Addr) (ns : List Int), vs = [.ref a] ∧ SqL G.K H a (ns.map V.int) ∧ TabsN G.T H ∧ ∀ H', Q (.bl true) H'
def lawE (nN i : Nat) : Env := (List.replicate nN none).set i (some (.fz .pen))
/-- behind the pen -/
def lawOk (nN i : Nat) (m : Env → T Fl) : Prop := (m (lawE nN i)).wp 0 (fun r _ => match r with | .rt (.bl true) => True | _ => False) (fun _ _ => False)
section
variable {P : Program} {w : World} {K : PySem.W.Frag} {mg : Str → Option Value} {base : Heap} {G : GC} {k : Nat} {f fP : Addr} {fd fdP : FuncData} {N : List Str} {m : Env → T Fl}
theorem law_ok {st s0 : Stmt} {rest : List Stmt} {e : Expr} {px pos : Pos} (hk : K = G.K) (F : Fun K "law" "law" st f fd) (S : FnScope N ["_law_script"] (defScope st)) (hst : defBody st = s0 :: rest)
    (hN1 : N[1]? = some ("_law_pen_here" : Str))
    (h0 : ∀ (cdv : Value) (A : Around) (outer : List PySem.Env) (s : Shared) (H : Hp) (E : XK), Room k (A.deeper (envOfC "law" (defScope st) s.heap.objs.size f cdv)) →
      PS (cxOf (L2.CX P w) P w K mg base N "law" (defScope st) f cdv A outer s H E) s0 (tAsg (fun σ H Q => ∃ v, σ[0]? = some (some v) ∧ spPen K [v] H Q E0) (gName 1)))
    (hb : ∀ (cdv : Value) (A : Around) (outer : List PySem.Env) (s : Shared) (H : Hp) (E : XK), Room k (A.deeper (envOfC "law" (defScope st) s.heap.objs.size f cdv)) → (A.deeper (envOfC "law" (defScope st) s.heap.objs.size f cdv)).guards = some [] →
      PSs (cxOf (L2.CX P w) P w K mg base N "law" (defScope st) f cdv A outer s H E) rest (tS G (fun cls d _ H => E cls d H) m))
    (hw : lawOk N.length 1 m) : FnG P w K mg base (k + 1) f fd ["_law_script"] (spLaw G) := by
  refine fnG_of F S (fun vs H Q E h => ?_) fun cdv A outer s H vs Q E hr hg h => ?_
  · obtain ⟨a, ns, rfl, _⟩ := h
    rfl
  · obtain ⟨a, ns, rfl, hS, hT, q⟩ := h
    rw [hst]
    refine ⟨_, pss_cons (h0 cdv A outer s H E hr) (hb cdv A outer s H E hr hg), ?_⟩
    refine ⟨.ref a, rfl, a, ns, rfl, by rw [hk]; exact hS, fun H' p c sm hp hc pen => ?_⟩
    have hl : 1 < N.length := (List.getElem?_eq_some_iff.mp hN1).1
    refine ⟨⟨fun _ => False, some (p, c), none⟩, 0, lawE N.length 1, [], ⟨⟨fun p' c' e => ?_, fun a h => h.elim, hT.ext sm⟩, ?_, List.nodup_nil, fun a m => absurd m (by simp)⟩, ?_⟩
    · cases e
      exact pen
    · have er : EnvR G ⟨fun _ => False, some (p, c), none⟩ H' (L2.start N [.ref a]) (List.replicate N.length none) [] := EnvR.nones _ _ (by
        unfold L2.start
        rw [List.length_append, List.length_map, List.length_replicate]
        show 1 + (N.length - 1) = N.length
        omega)
      obtain ⟨us', e1, e2⟩ := er.put (d := .pen) (v := .ref p) (.pen rfl) 1
      have : us' = [] := List.eq_nil_of_subset_nil e2.subset
      rw [this] at e1
      exact e1
    · refine T.wp_mono hw (fun r n' _ z C' H2 us' st hu => ?_) (fun _ _ _ z => z)
      cases r with
      | rt d =>
        intro v wf rv
        cases d <;> try exact False.elim z
        case bl b =>
          cases b with
          | false => exact False.elim z
          | true =>
            cases rv
            exact q _
      | nx _ => exact False.elim z
      | ro _ => exact False.elim z
      | bk _ => exact False.elim z
      | ct _ => exact False.elim z
      | ex _ _ => exact False.elim z
end
end Pu
set_option Elab.async false
set_option linter.all false
set_option maxRecDepth 100000
set_option maxHeartbeats 4000000
namespace Pu
open PySem L2 Stp NdefX LamX
open PyProof.Rows hiding St
/-- what is tracked at a law's call: the tables, and the script where it is not written -/
def H0 (K : PySem.W.Frag) (ts : List Addr) (a : Addr) (sc : Obj) (ns : List Int) : Hp := fun b => if b ∈ ts then some (.tbl #[]) else if b = a ∧ (K.lookup a).isNone = true then some (.frz sc (.lst (ns.map V.int))) else none
section
variable {P : Program} {w : World} {K : PySem.W.Frag} {mg mb : Str → Option Value} {k : Nat} {fa a : Addr} {cs : List (Addr × Addr)} {fd : FuncData} {x : Str} {sp : Sp} {s₁ : Shared} {vs : List Value} {ns : List Int}
theorem law_callG (KX : K.In s₁.heap) (hns : s₁.heap.Ns mainGlobals mg) (hb : s₁.heap.Ns builtinsNs mb) (hbb : ∀ x : Str, x ≠ "__name__" → mb x = bootBuiltins x) (lim : s₁.heap.NoLimit) (hg : s₁.gens = #[])
    (hT : ∀ p ∈ cs, s₁.heap.get? p.2 = some { cls := .none, data := .fields #[] }) (nT : ∀ p ∈ cs, K.lookup p.2 = none) (CH : ∀ p ∈ cs, PySem.W.CodeHd s₁.heap p.1 p.2)
    (bmn : ∃ (bm : Addr) (ob : Obj), mg "__builtins__" = some (.ref bm) ∧ bm ≠ builtinsNs ∧ s₁.heap.get? bm = some ob ∧ ob.cls = .type "module" ∧ ob.dict = some builtinsNs ∧ ob.data = .plain)
    (ha : s₁.heap.get? a = some { cls := .type "list", data := .seq vs.toArray }) (hi : IntsAre vs ns) (hl : ns.length ≤ sizeLine) (hr : Room k callerA)
    (F : ∀ base : Heap, K.In base → base.Ns mainGlobals mg → (∀ p ∈ cs, TabB base mg p.1 p.2) → FnG P w K mg base k fa fd [x] sp) (hbind : ∀ (s : Shared) (u : Value), BindsTo s fd ⟨[u], []⟩ [(x, u)])
    (hsp : ∀ H : Hp, (∀ p ∈ cs, H p.2 = some (.tbl #[])) → SqL K H a (ns.map V.int) → sp [.ref a] H (fun v _ => v = .bl true) fun _ _ _ => False) :
    codeAny (model P w) callerA (.call (.ref fa) ⟨[.ref a], []⟩) (fun r s' => r = .ok (.ret (.bool true)) ∧ OldK s₁.heap s'.heap ∧ s'.os = s₁.os ∧ AllBare s'.gens) s₁ := by
  have rv := vals_ints hi
  have lv := hi.length
  generalize ets : cs.map (·.2) = ts
  have tsM : ∀ p ∈ cs, p.2 ∈ ts := fun p hp => by rw [← ets]; exact List.mem_map.mpr ⟨p, hp, rfl⟩
  have tsT : ∀ b ∈ ts, ∃ p ∈ cs, p.2 = b := fun b m => by rw [← ets] at m; exact List.mem_map.mp m
  have tabAt : ∀ b ∈ ts, s₁.heap.get? b = some { cls := .none, data := .fields #[] } := fun b m => by
    obtain ⟨p, hp, rfl⟩ := tsT b m
    exact hT p hp
  have aN : a ∉ ts := fun m => by
    have q := tabAt a m
    rw [ha] at q
    cases congrArg Obj.data (Option.some.inj q)
  generalize eH : H0 K ts a { cls := .type "list", data := .seq vs.toArray } ns = H
  have Hcase : ∀ b, (b ∈ ts ∧ H b = some (.tbl #[])) ∨ (b = a ∧ K.lookup a = none ∧ H b = some (.frz { cls := .type "list", data := .seq vs.toArray } (.lst (ns.map V.int)))) ∨ H b = none := fun b => by
    rw [← eH]
    unfold H0
    by_cases m : b ∈ ts
    · exact .inl ⟨m, if_pos m⟩
    · rw [if_neg m]
      by_cases q : b = a ∧ (K.lookup a).isNone = true
      · exact .inr (.inl ⟨q.1, Option.isNone_iff_eq_none.mp q.2, if_pos q⟩)
      · exact .inr (.inr (if_neg q))
  have Htab : ∀ p ∈ cs, H p.2 = some (.tbl #[]) := fun p hp => by
    rw [← eH]
    exact if_pos (tsM p hp)
  have plainAt : ∀ {b : Addr} {o : Obj}, s₁.heap.get? b = some o → (∀ q n, o.data ≠ .seq q n) → o.data ≠ .fields #[] → H b = none := fun {b o} e d1 d2 => by
    rcases Hcase b with ⟨m, _⟩ | ⟨rfl, _, _⟩ | q
    · rw [tabAt b m] at e
      cases e
      exact absurd rfl d2
    · rw [ha] at e
      cases e
      exact absurd rfl (d1 _ _)
    · exact q
  have inB : ∀ {b : Addr} {o : Obj}, s₁.heap.get? b = some o → H b = none → (hidT s₁.heap H).get? b = some o := fun e n => hidT_get e n
  have nsB : ∀ {b : Addr} {m : Str → Option Value}, s₁.heap.Ns b m → (hidT s₁.heap H).Ns b m := fun {b m} ⟨o, es, ep, e, d, r⟩ => ⟨o, es, ep, inB e (plainAt e (fun q n z => by rw [d] at z; cases z) fun z => by rw [d] at z; cases z), d, r⟩
  have KB : K.In (hidT s₁.heap H) := fun b o e => inB (KX b o e) (by
    rcases Hcase b with ⟨m, _⟩ | ⟨rfl, q, _⟩ | q
    · obtain ⟨p, hp, rfl⟩ := tsT b m
      rw [nT p hp] at e
      cases e
    · rw [q] at e
      cases e
    · exact q)
  have hok : HOk P w H s₁.heap := fun b o e => by
    rcases Hcase b with ⟨m, q⟩ | ⟨rfl, _, q⟩ | q
    · rw [q] at e
      cases e
      exact tabAt b m
    · rw [q] at e
      cases e
      exact ⟨ha, by rw [List.length_map]; exact hl, vs, _, rv, ha⟩
    · rw [q] at e
      cases e
  have hS : SqL K H a (ns.map V.int) := by
    cases q : K.lookup a with
    | some o =>
      have e := KX a o q
      rw [ha] at e
      cases e
      exact .inr ⟨_, vs.toArray, _, q, rfl, rfl, rfl, by rw [List.size_toArray, lv]; exact hl, by simpa using rv⟩
    | none =>
      refine .inl (.inr ⟨{ cls := .type "list", data := .seq vs.toArray }, ?_⟩)
      rw [← eH]
      exact (if_neg aN).trans (if_pos ⟨rfl, by rw [q]; rfl⟩)
  have mod : L2.Mod K mg (hidT s₁.heap H) := ⟨KB, nsB hns, ⟨mb, nsB hb, hbb⟩, by
    obtain ⟨mc, h1, h2⟩ := lim
    exact ⟨mc, nsB h1, h2⟩⟩
  have TB : ∀ p ∈ cs, TabB (hidT s₁.heap H) mg p.1 p.2 := fun p hp => by
    refine ⟨?_, ?_, fun z => ?_⟩
    · obtain ⟨o, us, file, tf, flags, tg, inF, text, tt, e1, r1, r2, r3, rest⟩ := CH p hp
      refine ⟨o, us, file, tf, flags, tg, inF, text, tt, inB e1 (plainAt e1 (fun q n z => by rw [r2] at z; cases z) fun z => ?_), r1, r2, r3, rest⟩
      rw [r2] at z
      cases z
      simp at r3
    · obtain ⟨bm, ob, b1, b2, b3, b4, b5, b6⟩ := bmn
      refine ⟨bm, ob, b1, b2, fun q => ?_, fun q => ?_, inB b3 (plainAt b3 (fun q n z => by rw [b6] at z; cases z) fun z => by rw [b6] at z; cases z), b4, b5, b6⟩
      · obtain ⟨o, es, ep, e, d, _⟩ := hns
        rw [q, e] at b3
        cases b3
        rw [d] at b6
        cases b6
      · rw [q, hT p hp] at b3
        cases b3
        cases b6
    · obtain ⟨o, es, ep, e, d, _⟩ := hns
      rw [z, hT p hp] at e
      cases e
      cases d
  have e0 : Env0 P w K mg (hidT s₁.heap H) callerA [] s₁ H := ⟨rfl, mod, fun b o e => of_hidT e, Nat.le_of_eq (hidT_size _ _), trivial, fun b m => absurd (show b ∈ ([] : List Addr) from m) (by simp), hok, .of_eq hg⟩
  refine codeAny_mono ((F _ KB (nsB hns) TB).run callerA [] s₁ H ⟨[.ref a], []⟩ [.ref a] [.ref a] _ _ hr rfl e0 (hbind s₁ (.ref a)) (.cons rfl .nil) (hsp H Htab hS)) fun r s' h => ?_
  cases r with
  | error e =>
    obtain ⟨_, _, _, _, _, _, _, _, _, _, _, _, z⟩ := h
    exact False.elim z
  | ok fl =>
    cases fl with
    | next => exact False.elim h
    | brk => exact False.elim h
    | cont => exact False.elim h
    | ret u =>
      obtain ⟨v, H', os, bare, un, hok', r', q⟩ := h
      have q : v = .bl true := q
      subst q
      obtain rfl : u = Value.bool true := r'
      have stay : ∀ b o, b ∉ ts → s₁.heap.get? b = some o → s'.heap.get? b = some o := fun b o nb e => by
        rcases Hcase b with ⟨m, _⟩ | ⟨_, _, z⟩ | z
        · exact absurd m nb
        · have z2 := un.frzs b _ _ z
          obtain ⟨e1, _⟩ := hok b _ z
          obtain ⟨e2, _⟩ := hok' b _ z2
          rw [e] at e1
          cases e1
          exact e2
        · exact un.keep b o e z (fun y => absurd (show b ∈ ([] : List Addr) from y) (by simp)) (by simp)
      have tabs : ∀ p ∈ cs, ∃ more : Array Value, s'.heap.get? p.2 = some { cls := .none, data := .fields more } := fun p hp => by
        obtain ⟨more, z⟩ := un.tbls p.2 #[] (Htab p hp)
        exact ⟨_, hok' p.2 _ z⟩
      refine ⟨rfl, ⟨fun b o e => ?_, fun b o e => ?_⟩, os, bare⟩
      · by_cases m : b ∈ ts
        · obtain ⟨p, hp, rfl⟩ := tsT b m
          obtain ⟨more, hm⟩ := tabs p hp
          rw [hT p hp] at e
          cases e
          exact .inr (.inl ⟨((CH p hp).tab (hT p hp)).isCodeTable, rfl, #[], more, rfl, by rw [Array.empty_append]; exact hm⟩)
        · exact .inl (stay b o m e)
      · by_cases m : b ∈ ts
        · obtain ⟨p, hp, rfl⟩ := tsT b m
          obtain ⟨more, hm⟩ := tabs p hp
          exact ⟨_, hm⟩
        · exact ⟨o, stay b o m e⟩
end
/-- what is shown of a law at the heap behind the top -/
def LawG (l : PySem.W.OpenLaw) (w : World) (k : Nat) (mg : Str → Option Value) (fa : Addr) (h : Heap) : Prop :=
  ∃ (G : GC) (fd : FuncData) (cs : List (Addr × Addr)), G.K.In h ∧ (∀ p ∈ cs, h.get? p.2 = some { cls := .none, data := .fields #[] }) ∧ (∀ p ∈ cs, G.K.lookup p.2 = none) ∧ (∀ p ∈ cs, PySem.W.CodeHd h p.1 p.2) ∧ (∀ (s : Shared) (u : Value), BindsTo s fd ⟨[u], []⟩ [("_law_script", u)]) ∧ (∀ p ∈ G.T, p.1 ∈ cs.map (·.2)) ∧
    ∀ base : Heap, G.K.In base → base.Ns mainGlobals mg → (∀ p ∈ cs, TabB base mg p.1 p.2) → FnG l.prog w G.K mg base k fa fd ["_law_script"] (spLaw G)
theorem walkG {l : PySem.W.OpenLaw} {k : Nat} {q : Program} {loose : List Str} {XP : (Str → Option Value) → Heap → Prop} {YP : World → Heap → Prop} {d : DefRec} (hn : l.most = some 63) (hdf : d.params.defaults = []) (hr : Room k callerA)
    (F : ∀ (w : World) (mg : Str → Option Value) (fa : Addr) (h : Heap), YP w h → h.Ns mainGlobals mg → mg d.name = some (.ref fa) → LawG l w k mg fa h) :
    PySem.W.WalkO q loose XP YP l.row.toRowW d [] (fun f vs => PySem.call f vs) := by
  refine Att.attach_callB hn hdf fun w s₀ s₁ mg mb fa o pm cd doc a vs ns G0 Y ho hd hcd hmg hobj hints hlen hbits hg => ?_
  obtain ⟨G, fd, cs, KX, h1, h2, h3, h4, h5, h6⟩ := F w mg fa _ Y G0.T.g hmg
  refine law_callG KX G0.T.g G0.T.b G0.T.builtins G0.T.nolimit hg h1 h2 h3 G0.T.bmain hobj hints (Nat.le_trans hlen (by rw [sizeLine_eq]; decide)) hr h6 h4 fun H hH hS => ⟨a, ns, rfl, hS, fun p hp => ?_, fun _ => rfl⟩
  obtain ⟨r, hr, e⟩ := List.mem_map.mp (h5 p hp)
  exact TabN.nil (by rw [← e]; exact hH r hr)
end Pu
set_option Elab.async false
set_option linter.all false
set_option maxRecDepth 100000
set_option maxHeartbeats 4000000
namespace Pu
open PySem L2 Stp NdefX LamX
open PyProof.Rows hiding St
/-! ### *e in displays and arguments -/
def itmD : D → T (List D)
  | .lst xs => .ret xs
  | .tup xs => .ret xs
  | .wt xs => .ret xs
  | _ => .fail
def aStar (m : Env → T D) (k : Env → T (List D)) : Env → T (List D) := fun env => (m env).bind fun d => (itmD d).bind fun xs => (k env).bind fun ys => .ret (xs ++ ys)
section
variable {X : Cx} {G : GC} {W : WX} {b : Bool} {e : Expr} {es : List Expr} {m : Env → T D} {k : Env → T (List D)} {p : Pos}
theorem a_star (hk : X.K = G.K) (he : PE X e (tQ G W b m)) (hr : PA X es (tA G W b k)) (hs : starEach (.Starred e p :: es) X.env = (true, eval e X.env) :: starEach es X.env := by rfl) : PA X (.Starred e p :: es) (tA G W b (aStar m k)) := by
  refine PA.imp (StX.pa_star he hr hs) fun σ H Q h => ?_
  obtain ⟨C, n, env, us, h⟩ := h
  refine ⟨C, n, env, us, (h.bind (R := rV G b)).imp ?_⟩
  rintro v H1 ⟨C1, n1, d, s1, r1, h1⟩
  have go : ∀ (q : Addr) (vs : List V) (ds : List D), v = .ref q → (SqT X.K H1 q vs ∨ SqL X.K H1 q vs) → RepL G (C1.vw b) H1 vs ds → At G W (rA G b) σ env us C1 n1 H1 ((k env).bind fun ys => .ret (ds ++ ys)) Q →
      ∃ p xs, v = V.ref p ∧ (SqT X.K H1 p xs ∨ SqL X.K H1 p xs) ∧ tA G W b k σ H1 fun ys H2 => Q (xs ++ ys) H2 := by
    intro q vs ds ev hq rl h2
    refine ⟨q, vs, ev, hq, C1, n1, env, us, (h2.bind (R := rA G b)).imp ?_⟩
    rintro ws H2 ⟨C2, n2, ys, s2, r2, h3⟩
    exact h3.ret ((rl.nx (s2.vw b)).append r2)
  cases r1 <;> try exact h1.no.elim
  case tup q vs ds hq l => exact go q vs ds rfl (.inl (SqT.of hq)) l h1
  case wt q vs ds hq l => exact go q vs ds rfl (.inl (by rw [hk]; exact sqT_wt hq)) l h1
  case lst q vs ds f hq l => exact go q vs ds rfl (.inr (SqL.of hq)) l h1
end
/-! ### x[i] of a list or dict that a slot owns: the item is frozen -/
def itO : O → D → T D
  | .ls xs, .int i => ofO (atI xs i)
  | .dk kvs, k => (match keyD k with
    | some k => ofO (valD kvs k)
    | none => .fail)
  | .dt kvs, .tup ks => (match keysD ks with
    | some k => ofO (valD kvs k)
    | none => .fail)
  | _, _ => .fail
def qIxO (i : Nat) (mb : Env → T D) : Env → T D := fun env => match env[i]? with
  | some (some o) => (mb env).bind (itO o)
  | _ => .fail
section
variable {X : Cx} {G : GC} {W : WX} {i : Nat} {a c : Expr} {mb : Env → T D} {pos : Pos}
theorem s_ixO (hk : X.K = G.K) (hu : X.A.units + 1 < cLine) (ha : PE X a (tVar i)) (hb : PE X c (tQ G W false mb)) (hs : PlainIx c := by exact fun _ _ => rfl) : PE X (.Subscript a c pos) (tQ G W false (qIxO i mb)) := by
  have ho := (ix_seq (X := X)).or (ix_dict hu)
  refine PE.imp (pe_ix ho ha hb hs) fun σ H Q h => ?_
  obtain ⟨C, n, env, us, h⟩ := h
  unfold qIxO at h
  cases e : env[i]? with
  | none => rw [e] at h; exact h.no.elim
  | some o =>
    cases o with
    | none => rw [e] at h; exact h.no.elim
    | some o =>
      rw [e] at h
      obtain ⟨v, us1, h1, h2, h3⟩ := h.ok.env.at e
      refine ⟨v, h1, C, n, env, us, (h.bind (R := rV G false)).imp ?_⟩
      rintro y H1 ⟨C1, n1, d, s1, r1, k1⟩
      have r1 := r1.unview
      cases o with
      | ls ds =>
        obtain ⟨p, vs, f1, hp, l, _, _⟩ := k1.ok.atLs e
        rw [h1] at f1
        cases f1
        cases r1 <;> try exact k1.no.elim
        obtain ⟨d, e1, k1⟩ := k1.ofO
        obtain ⟨u, e2, rv⟩ := l.atI e1
        exact .inl (.inl ⟨p, vs, _, u, rfl, rfl, SqL.of hp, e2, k1.ret (rv.view false)⟩)
      | dk ds =>
        obtain ⟨p, vs, f1, hp, l, _, _⟩ := k1.ok.atDk e
        rw [h1] at f1
        cases f1
        have k1 : At G W (rV G false) σ env us C1 n1 H1 (match keyD d with | some k => ofO (valD ds k) | none => .fail) Q := by cases d <;> exact k1
        cases q : keyD d with
        | none => rw [q] at k1; exact k1.no.elim
        | some kk =>
          rw [q] at k1
          obtain ⟨d', e1, k1⟩ := k1.ofO
          obtain ⟨u, e2, rv⟩ := (l.val kk).2 d' e1
          refine .inr ⟨p, u, rfl, ?_, k1.ret (rv.view false)⟩
          rw [r1.key q, ← e2]
          exact DGet.k hp
      | dt ds =>
        obtain ⟨p, vs, f1, hp, l, _, _⟩ := k1.ok.atDt e
        rw [h1] at f1
        cases f1
        cases r1 <;> try exact k1.no.elim
        case tup p2 vs2 ds2 hp2 l2 =>
          have k1 : At G W (rV G false) σ env us C1 n1 H1 (match keysD ds2 with | some k => ofO (valD ds k) | none => .fail) Q := k1
          cases q : keysD ds2 with
          | none => rw [q] at k1; exact k1.no.elim
          | some kk =>
            rw [q] at k1
            obtain ⟨d', e1, k1⟩ := k1.ofO
            obtain ⟨u, e2, rv⟩ := (l.val kk).2 d' e1
            refine .inr ⟨p, u, rfl, ?_, k1.ret (rv.view false)⟩
            rw [← e2]
            exact DGet.t hp (by rw [hp2, l2.keys q])
      | _ => exact k1.no.elim
end
/-! ### l.index(x) -/
def idxF (a : PyData) : List PyData → Nat → Option Nat
  | [], _ => none
  | z :: r, i => if PyData.eqv z a = true then some i else idxF a r (i + 1)
def indexD (x y : D) : T D := match x with
  | .lst xs => (match y.pd, D.pdL xs with
    | some a, some bs => grd (SeqAt.shaped a = true ∧ SeqAt.shaped (.list bs) = true) (match idxF a bs 0 with
      | some j => .ret (.int j)
      | none => .fail)
    | _, _ => .fail)
  | _ => .fail
def qIndex (mo me : Env → T D) : Env → T D := fun env => (mo env).bind fun d => match d with
  | .lst xs => (me env).bind fun y => indexD (.lst xs) y
  | _ => .fail
theorem idxF_spec {a : PyData} : ∀ {bs : List PyData} {i j : Nat}, idxF a bs i = some j → i ≤ j ∧ (∃ z, bs[j - i]? = some z ∧ PyData.eqv z a = true) ∧ ∀ (m : Nat) z', m < j - i → bs[m]? = some z' → PyData.eqv z' a = false
  | [], _, _, e => by cases e
  | z :: r, i, j, e => by
    unfold idxF at e
    by_cases h : PyData.eqv z a = true
    · rw [if_pos h] at e
      cases e
      exact ⟨Nat.le_refl _, ⟨z, by simp, h⟩, fun m z' hm _ => absurd hm (by omega)⟩
    · rw [if_neg h] at e
      obtain ⟨h1, ⟨y, h2, h3⟩, h4⟩ := idxF_spec e
      have e1 : j - i = (j - (i + 1)) + 1 := by omega
      refine ⟨by omega, ⟨y, by rw [e1]; simpa using h2, h3⟩, fun m z' hm hz => ?_⟩
      cases m with
      | zero =>
        simp at hz
        rw [← hz]
        simpa using h
      | succ m => exact h4 m z' (by omega) (by simpa using hz)
section
variable {X : Cx} {G : GC} {W : WX} {b : Bool} {o e : Expr} {mo me : Env → T D} {ap cp : Pos}
theorem s_index (hk : X.K = G.K) (hu : X.A.units + 65 < cLine) (ho : PE X o (tQ G W b mo)) (he : PE X e (tQ G W b me))
    (hbase : attributeBase o "index" X.env (eval o X.env) = eval o X.env := by rfl)
    (hfew : ((backTo cp (starEach [e] X.env)).all (fun x => !x.1) && (backToKw cp (keywordEach [] X.env)).all (fun x => x.1.isSome) && decide (([e] : List Expr).length + ([] : List Keyword).length + (if ([] : List Keyword).isEmpty then 0 else 1) < 30)) = true := by rfl)
    (hline : (ap.endLine == cp.line) = true := by rfl) (hs : starEach [e] X.env = (false, eval e X.env) :: starEach [] X.env := by rfl) (hplain : (backTo cp (starEach [] X.env)).any (·.1) = false := by rfl) :
    PE X (.Call (.Attribute o "index" ap) [e] [] cp) (tQ G W false (qIndex mo me)) := by
  refine PE.imp (pe_bm PySem.F.plainAttrs_list PySem.F.slot_list_index PySem.F.type_list_index (mt_indexD hu) ho (pa_cons he pa_nil hs) hbase hfew hline hs hplain) fun σ H Q h => ?_
  obtain ⟨C, n, env, us, h⟩ := h
  refine ⟨C, n, env, us, (h.bind (R := rV G b)).imp ?_⟩
  rintro v H1 ⟨C1, n1, d, s1, r1, h1⟩
  cases r1 <;> try exact h1.no.elim
  case lst p vs ds f hp l =>
    refine ⟨.inl ⟨rfl, vs, SqL.of hp⟩, C1, n1, env, us, (At.bind (R := rV G b) h1).imp ?_⟩
    rintro y H2 ⟨C2, n2, d2, s2, r2, h2⟩
    have h2 : At G W (rV G false) σ env us C2 n2 H2 (match d2.pd, D.pdL ds with
      | some a, some bs => grd (SeqAt.shaped a = true ∧ SeqAt.shaped (.list bs) = true) (match idxF a bs 0 with
        | some j => .ret (.int j)
        | none => .fail)
      | _, _ => .fail) Q := h2
    have rl : Rep G (C2.vw b) H2 (.ref p) (.lst ds) := (Rep.lst f hp l).nx (s2.vw b)
    cases q1 : d2.pd with
    | none => rw [q1] at h2; exact h2.no.elim
    | some a =>
      cases q2 : D.pdL ds with
      | none => rw [q1, q2] at h2; exact h2.no.elim
      | some bs =>
        rw [q1, q2] at h2
        obtain ⟨⟨sa, sb⟩, h2⟩ := h2.grd
        cases q3 : idxF a bs 0 with
        | none => rw [q3] at h2; exact h2.no.elim
        | some j =>
          rw [q3] at h2
          obtain ⟨_, ⟨z, e1, e2⟩, e3⟩ := idxF_spec q3
          have el : (D.lst ds).pd = some (.list bs) := by show (D.pdL ds).map PyData.list = _; rw [q2]; rfl
          rw [hk]
          exact ⟨p, y, a, bs, j, z, rfl, rfl, rl.dp el, r2.dp q1, sb, sa, by simpa using e1, e2, fun m z' hm hz => e3 m z' (by simpa using hm) hz, h2.ret (.int _)⟩
end
end Pu
set_option Elab.async false
set_option linter.all false
set_option maxRecDepth 100000
set_option maxHeartbeats 4000000
namespace Pu
open PySem L2 Stp NdefX LamX
open PyProof.Rows hiding St
section
variable {P : Program} {w : World} {K : PySem.W.Frag} {mg : Str → Option Value} {base : Heap} {N : List Str} {qual : Str} {scope : Scope} {f : Addr} {cd : Value} {A : Around} {outer : List PySem.Env} {s : Shared} {H : Hp} {E : XK}
theorem tk_def : Takes (cxOf (L2.CX P w) P w K mg base N qual scope f cd A outer s H E) (fun cls d _ H' => E cls d H') := takes_of (X := cxOf (L2.CX P w) P w K mg base N qual scope f cd A outer s H E) rfl rfl rfl (E₁ := fun e' s'' => L2.CX P w outer H s E e' s'') rfl
theorem po_def : PassesOwn (model P w) (cxOf (L2.CX P w) P w K mg base N qual scope f cd A outer s H E).A (cxOf (L2.CX P w) P w K mg base N qual scope f cd A outer s H E).env (cxOf (L2.CX P w) P w K mg base N qual scope f cd A outer s H E).xe := passes_of rfl
end
section
variable {X : Cx} {G : GC} {W : WX} {x : Str} {pos : Pos}
theorem s_globI {i : Int} (hg : Gl X x) (hm : ∃ t, X.mg x = some (.int i t)) (hd : (x == ("__debug__" : Str)) = false := by decide) : PE X (.Name x pos) (tQ G W false (qC (.int i))) := by
  obtain ⟨t, hm⟩ := hm
  exact s_glob (v := .int i) hg hm ⟨t, rfl⟩ (fun _ _ => .int i) hd
theorem tk_lam {P : Program} {w : World} {K : PySem.W.Frag} {mg : Str → Option Value} {base : Heap} {N : List Str} {F : NF} {f : Addr} {A : Around} {outer : List PySem.Env} {s : Shared} {H : Hp} {E : XK} : Takes (ncx (L2.CX P w) P w K mg base N F f A outer s H E) (fun cls d _ H' => E cls d H') := takes_of (X := ncx (L2.CX P w) P w K mg base N F f A outer s H E) rfl rfl rfl (E₁ := fun e' s'' => L2.CX P w outer H s E e' s'') rfl
theorem s_globW {d : D} (hg : Gl X x) (hm : ∃ a, X.mg x = some (.ref a) ∧ ∀ C H, Rep G C H (.ref a) d) (hd : (x == ("__debug__" : Str)) = false := by decide) : PE X (.Name x pos) (tQ G W false (qC d)) := by
  obtain ⟨a, hm, hr⟩ := hm
  exact s_glob (v := .ref a) hg hm rfl hr hd
theorem s_globC {c : Nat} {A : Addr} (hg : Gl X x) (hm : X.mg x = some (.ref A)) (hA : G.cA c = some A) (hd : (x == ("__debug__" : Str)) = false := by decide) : PE X (.Name x pos) (tQ G W false (qC (.cls c))) := s_glob hg hm (v := .ref A) rfl (fun _ _ => .cls hA) hd
theorem tk_no : Takes X W0 := fun _ _ x => by
  obtain ⟨_, _, _, _, _, _, _, _, _, _, _, _, _, _, _, _, z⟩ := x
  exact z.elim
end
theorem hU {k : Nat} {A : Around} (hr : Room k A) (n : Nat) (h : n ≤ 200 := by decide) : A.units + n < cLine := by
  have := hr.un
  omega
end Pu
set_option Elab.async false
set_option linter.all false
set_option maxRecDepth 100000
set_option maxHeartbeats 4000000
/-! the head: what the top leaves, read by one Hook; defs by paths, a list of Bool checks -/
namespace Pu
open PySem L2 Stp NdefX LamX
open PyProof.Rows hiding St
abbrev Fg := PySem.W.Frag
structure PD where
  at_ : Fg → Addr
  name : Str
  qual : Str
  st : Stmt
def fdAt (K : Fg) (f : Addr) : FuncData := match K.lookup f with
  | some ⟨_, _, .func fd, _⟩ => fd
  | _ => default
abbrev FSig : Type := Option (Str × Str × Arguments × FuncBody × Scope × Addr × List (Str × Addr) × Value × Addr)
def fdSig (fd : FuncData) : FSig := some (fd.name, fd.qualname, fd.params, fd.body, fd.scope, fd.globals, fd.closure, fd.defaults, fd.builtins)
def PD.val (d : PD) : FSig := some (d.name, d.qual, defArgs d.st, .stmts (defBody d.st), defScope d.st, mainGlobals, [], .none, builtinsNs)
def PD.obs (K : Fg) (d : PD) : FSig := match K.lookup (d.at_ K) with
  | some ⟨_, _, .func fd, _⟩ => fdSig fd
  | _ => none
def PD.ok (K : Fg) (d : PD) : Bool := PySem.W.keepIn K (.ref (d.at_ K)) && PySem.W.codeIn K (fdAt K (d.at_ K)).code d.qual
theorem PD.fun_ {K : Fg} {d : PD} (e : d.obs K = d.val) (c : d.ok K = true) : Fun K d.name d.qual d.st (d.at_ K) (fdAt K (d.at_ K)) := by
  obtain ⟨c1, c2⟩ := Bool.and_eq_true_iff.mp c
  refine ⟨?_, c1⟩
  unfold PD.obs at e
  unfold fdAt at c2 ⊢
  cases q : K.lookup (d.at_ K) with
  | none =>
    rw [q] at e
    cases e
  | some o =>
    obtain ⟨oc, od, dt, sl⟩ := o
    rw [q] at e c2
    cases dt <;> try (cases e; done)
    rename_i fd
    obtain ⟨n1, n2, n3, n4, n5, n6, n7, n8, n9, n10, n11, n12, n13, n14, n15⟩ := fd
    have e2 : fdSig ⟨n1, n2, n3, n4, n5, n6, n7, n8, n9, n10, n11, n12, n13, n14, n15⟩ = d.val := e
    unfold fdSig PD.val at e2
    simp only [Option.some.injEq, Prod.mk.injEq] at e2
    obtain ⟨h1, h2, h3, h4, h5, h6, h7, h8, h9⟩ := e2
    subst h1 h2 h3 h4 h5 h6 h7 h8 h9
    exact ⟨oc, od, n9, n10, n11, n12, n13, n14, sl, rfl, rfl, c2⟩
/-- what the names reach, and the interpreter's own statics -/
def asU (g : Addr → Option Obj) (n : Nat) : List Addr := He.asD g n ++ [cStatics]
/-- the defs' tables: empty, not looked at -/
structure SaysU (fn : List PD) (tf : List He.Defn) (ex : List (Fg → Bool)) (h : Heap) (K : Fg) : Prop where
  fs : fn.map (PD.obs K) = fn.map PD.val
  fk : ∀ d ∈ fn, d.ok K = true
  ex : ∀ c ∈ ex, c K = true
  hd : ∀ p ∈ tf, PySem.W.codeHdIn K (He.cT K p).1 (He.cT K p).2 = true
  out : ∀ p ∈ tf, K.lookup (He.cT K p).2 = none
  empty : ∀ p ∈ tf, h.get? (He.cT K p).2 = some { cls := .none, data := .fields #[] }
def obsU (n : Nat) (fn : List PD) (tf : List He.Defn) (ex : List (Fg → Bool)) (g : Addr → Option Obj) : List FSig × Bool :=
  let K := He.frT g (asU g n)
  (fn.map (PD.obs K), (fn.all fun d => d.ok K) && ((ex.all fun c => c K) && He.tabsB g tf K))
theorem saysU_of {n : Nat} {fn : List PD} {tf : List He.Defn} {ex : List (Fg → Bool)} {h : Heap} (e : obsU n fn tf ex h.get? = (fn.map PD.val, true)) : SaysU fn tf ex h (He.frT h.get? (asU h.get? n)) := by
  generalize eK : He.frT h.get? (asU h.get? n) = K
  have e1 : fn.map (PD.obs K) = fn.map PD.val := by
    rw [← eK]
    exact congrArg (fun z => z.1) e
  have e2 : ((fn.all fun d => d.ok K) && ((ex.all fun c => c K) && He.tabsB h.get? tf K)) = true := by
    rw [← eK]
    exact congrArg (fun z => z.2) e
  obtain ⟨h1, h2⟩ := Bool.and_eq_true_iff.mp e2
  obtain ⟨h2, h3⟩ := Bool.and_eq_true_iff.mp h2
  have key : ∀ p ∈ tf, PySem.W.codeHdIn K (He.cT K p).1 (He.cT K p).2 = true ∧ ∃ o, h.get? (He.cT K p).2 = some o ∧ He.emptyTab o = true := fun p hp => by
    obtain ⟨a1, a2⟩ := Bool.and_eq_true_iff.mp (List.all_eq_true.mp h3 p hp)
    refine ⟨a1, ?_⟩
    cases q : h.get? (He.cT K p).2 with
    | none =>
      rw [q] at a2
      cases a2
    | some o =>
      rw [q] at a2
      exact ⟨o, rfl, a2⟩
  refine ⟨e1, List.all_eq_true.mp h1, List.all_eq_true.mp h2, fun p hp => (key p hp).1, fun p hp => ?_, fun p hp => ?_⟩
  · obtain ⟨_, o, q, z⟩ := key p hp
    rw [← eK] at q ⊢
    exact He.frT_none q z
  · obtain ⟨_, o, q, z⟩ := key p hp
    rw [q, He.emptyTab_eq z]
def hookU (n : Nat) (fn : List PD) (tf : List He.Defn) (ex : List (Fg → Bool)) : PySem.W.Hook where
  α := List FSig × Bool
  obs := fun s => obsU n fn tf ex s.heap.get?
  val := fun _ => (fn.map PD.val, true)
  says := fun _ h => ∃ K : Fg, K.In h ∧ SaysU fn tf ex h K
  of := fun _ _ e => ⟨_, He.frT_in, saysU_of e⟩
  keeps := fun _ _ _ ⟨K, hK, c⟩ k => ⟨K, PySem.W.Frag.In.keeps hK k, ⟨c.fs, c.fk, c.ex, c.hd, c.out, fun p hp => k _ _ (c.empty p hp)⟩⟩
theorem obsU_eq {n : Nat} {fn : List PD} {tf : List He.Defn} {ex : List (Fg → Bool)} {g : Addr → Option Obj} {s : Shared} (h : ∀ a, g a = s.heap.get? a) : obsU n fn tf ex g = (hookU n fn tf ex).obs s := by
  obtain rfl : g = s.heap.get? := funext h
  rfl
section
variable {fn : List PD} {tf : List He.Defn} {ex : List (Fg → Bool)} {h : Heap} {K : Fg}
theorem SaysU.df (c : SaysU fn tf ex h K) (i : Nat) {d : PD} (e : fn[i]? = some d := by rfl) : Fun K d.name d.qual d.st (d.at_ K) (fdAt K (d.at_ K)) := by
  have e2 : (fn.map (PD.obs K))[i]? = (fn.map PD.val)[i]? := by rw [c.fs]
  rw [List.getElem?_map, List.getElem?_map, e] at e2
  exact PD.fun_ (Option.some.inj e2) (c.fk d (List.mem_of_getElem? e))
theorem SaysU.at (c : SaysU fn tf ex h K) (i : Nat) {b : Fg → Bool} (e : ex[i]? = some b := by rfl) : b K = true := c.ex b (List.mem_of_getElem? e)
end
/-! ### checks by names -/
open He in
def insB (x : Str) (K : Fg) : Bool := (Fa.cls x).ok K && (eqO (PySem.W.findIn K (.ref (ga K x)) "__class__") (some (some (.builtin "object.__class__"))) && (eqO (PySem.W.specialIn K (.builtin "object.__class__") "__get__") (some (some (.builtin "getset_descriptor.__get__"))) &&
  (decide (PySem.W.takesIn K (.builtin "object.__class__") = some true) && decide (PySem.W.mroIn K (ga K x) (.type "object") = some true))))
theorem insB_ok {x : Str} {K : Fg} (h : insB x K = true) : InsC K (He.ga K x) := by
  unfold insB at h
  simp only [Bool.and_eq_true, decide_eq_true_eq] at h
  obtain ⟨h1, h2, h3, h4, h5⟩ := h
  exact ⟨He.cls_ok h1, He.eqO_ok h2, He.eqO_ok h3, h4, h5⟩
open He in
def isxB (x : Str) (K : Fg) : Bool := (PySem.W.clsIn K (ga K x)).isSome && (eqO (PySem.W.findIn K (.ref (ga K x)) "__getattribute__") (some (some (.builtin "BaseException.__getattribute__"))) && (eqO (PySem.W.findIn K (.ref (ga K x)) "__getattr__") (some none) &&
  (decide (PySem.W.subIn K (.ref (ga K x)) (.type "BaseException") = some true) && (eqO (PySem.W.findIn K (.ref (ga K x)) "__class__") (some (some (.builtin "object.__class__"))) && (eqO (PySem.W.specialIn K (.builtin "object.__class__") "__get__") (some (some (.builtin "getset_descriptor.__get__"))) &&
  (decide (PySem.W.takesIn K (.builtin "object.__class__") = some true) && decide (PySem.W.mroIn K (ga K x) (.type "object") = some true)))))))
theorem isxB_ok {x : Str} {K : Fg} (h : isxB x K = true) : IsxC K (He.ga K x) := by
  unfold isxB at h
  simp only [Bool.and_eq_true, decide_eq_true_eq] at h
  obtain ⟨h0, h1, h2, h3, h4, h5, h6, h7⟩ := h
  exact ⟨h0, He.eqO_ok h1, He.eqO_ok h2, h3, He.eqO_ok h4, He.eqO_ok h5, h6, h7⟩
/-- a property's getter -/
def gAd (x f : Str) (K : Fg) : Addr := match PySem.W.recIn K (He.ma K (He.ga K x) f) "property" with
  | some (.ref g :: _) => g
  | _ => 0
/-- a method of a class -/
def mAd (x m : Str) (K : Fg) : Addr := He.ma K (He.ga K x) m
def fnAd (x : Str) (K : Fg) : Addr := He.ga K x
open He in
def propB (x y f : Str) (K : Fg) : Bool := eqO (PySem.W.findIn K (.ref (ga K x)) f) (some (some (.ref (mAd y f K)))) && (eqO (PySem.W.specialIn K (.ref (mAd y f K)) "__get__") (some (some (.builtin "property.__get__"))) && (decide (PySem.W.takesIn K (.ref (mAd y f K)) = some true) &&
  (match PySem.W.recIn K (mAd y f K) "property" with
  | some (.ref g :: _) => decide (g = gAd y f K)
  | _ => false)))
theorem propB_ok {x y f : Str} {K : Fg} (h : propB x y f K = true) : PropOf K (He.ga K x) f (mAd y f K) (gAd y f K) := by
  unfold propB at h
  simp only [Bool.and_eq_true, decide_eq_true_eq] at h
  obtain ⟨h1, h2, h3, h4⟩ := h
  refine ⟨He.eqO_ok h1, He.eqO_ok h2, h3, ?_⟩
  split at h4
  · rename_i g r e
    rw [of_decide_eq_true h4] at e
    exact ⟨r, e⟩
  · cases h4
open He in
/-- x has y's method m -/
def methB (x y m : Str) (K : Fg) : Bool := eqO (PySem.W.findIn K (.ref (ga K x)) m) (some (some (.ref (mAd y m K)))) && (PySem.W.isFn K (.ref (mAd y m K)) && PySem.W.keepIn K (.ref (mAd y m K)))
theorem methB_ok {x y m : Str} {K : Fg} (h : methB x y m K = true) : Meth K (He.ga K x) m (mAd y m K) := by
  unfold methB at h
  simp only [Bool.and_eq_true] at h
  exact ⟨He.eqO_ok h.1, h.2.1, h.2.2⟩
open He in
def mkrB (x y : Str) (K : Fg) : Bool := PySem.W.makesIn K (ga K x) && (methB x y "__init__" K && PySem.W.keepIn K (.ref (ga K x)))
theorem mkrB_ok {x y : Str} {K : Fg} (h : mkrB x y K = true) : Mk K (He.ga K x) (mAd y "__init__" K) := by
  unfold mkrB at h
  simp only [Bool.and_eq_true] at h
  have m := methB_ok h.2.1
  unfold methB at h
  simp only [Bool.and_eq_true] at h
  exact ⟨h.1, He.eqO_ok h.2.1.1, h.2.1.2.1, h.2.2⟩
open He in
/-- C.m, a def of the class -/
def clfB (x m : Str) (K : Fg) : Bool := PySem.W.readsIn K (ga K x) (.type "type") && (eqO (PySem.W.specialIn K (.ref (ga K x)) "__getattribute__") (some (some (.builtin "type.__getattribute__"))) && (PySem.W.keepIn K (.ref (mAd x m K)) &&
  (match PySem.W.findCls K (.ref (ga K x)) (.type "type") m with
  | some (.val (.ref f)) => decide (f = mAd x m K)
  | _ => false)))
theorem clfB_ok {x m : Str} {K : Fg} (h : clfB x m K = true) : ClX.CRead K (He.ga K x) (.type "type") ∧ PySem.W.findCls K (.ref (He.ga K x)) (.type "type") m = some (.val (.ref (mAd x m K))) ∧ PySem.W.keepIn K (.ref (mAd x m K)) = true := by
  unfold clfB at h
  simp only [Bool.and_eq_true] at h
  obtain ⟨h1, h2, h3, h4⟩ := h
  refine ⟨⟨h1, He.eqO_ok h2⟩, ?_, h3⟩
  split at h4
  · rename_i f e
    rw [of_decide_eq_true h4] at e
    exact e
  · cases h4
theorem raiC_of {x : Str} {K : Fg} (h : (He.Fa.exc x).ok K = true) : RaiC K He.veBase "ValueError.__new__" (He.ga K x) := by
  obtain ⟨h1, h2, h3, h4⟩ := He.exc_ok h
  exact ⟨h1, h2, h3, h4⟩
/-! ### class ids by a table of names -/
def cNames (tb : List (Nat × Str)) (K : Fg) (c : Nat) : Option Addr := (tb.lookup c).map (He.ga K)
def ktOf (tb : List (Nat × Str)) (K : Fg) : KT → Option Value
  | .b n => some (.type n)
  | .c k => (cNames tb K k).map Value.ref
/-- the isinstance table -/
abbrev KRow := (KT × KT) × Bool
def tabK (rows : List KRow) : KTab := fun a b => rows.lookup (a, b)
def kitB (tb : List (Nat × Str)) (r : KRow) (K : Fg) : Bool := match ktOf tb K r.1.1, ktOf tb K r.1.2 with
  | some va, some vb => decide (PySem.W.kitOne K va vb = some r.2)
  | _, _ => false
theorem lookup_mem' {α β : Type} [BEq α] [LawfulBEq α] {a : α} {b : β} : ∀ {l : List (α × β)}, l.lookup a = some b → (a, b) ∈ l
  | [], h => by cases h
  | (x, y) :: r, h => by
    rw [List.lookup_cons] at h
    split at h
    · rename_i q
      rw [eq_of_beq q]
      cases h
      exact List.mem_cons_self ..
    · exact List.mem_cons_of_mem _ (lookup_mem' h)
theorem tbF_of {G : GC} {tb : List (Nat × Str)} {rows : List KRow} (hc : G.cA = cNames tb G.K) (h : ∀ r ∈ rows, kitB tb r G.K = true) : TbF G (tabK rows) := by
  intro a b r e
  have m := h _ (lookup_mem' e)
  unfold kitB at m
  have ek : ∀ k, G.ktV k = ktOf tb G.K k := fun k => by
    cases k with
    | b n => rfl
    | c n =>
      show (G.cA n).map Value.ref = (cNames tb G.K n).map Value.ref
      rw [hc]
  split at m
  · rename_i va vb e1 e2
    exact ⟨va, vb, by rw [ek]; exact e1, by rw [ek]; exact e2, of_decide_eq_true m⟩
  · cases m
theorem tyF_of {G : GC} {tb : List (Nat × Str)} (hc : G.cA = cNames tb G.K) (h : ∀ p ∈ tb, (if p.1 < 100 then insB p.2 G.K else isxB p.2 G.K) = true) : TyF G := by
  have go : ∀ c A, G.cA c = some A → ∃ x, (c, x) ∈ tb ∧ A = He.ga G.K x := fun c A e => by
    rw [hc] at e
    unfold cNames at e
    cases q : tb.lookup c with
    | none => rw [q] at e; cases e
    | some x =>
      rw [q] at e
      cases e
      exact ⟨x, lookup_mem' q, rfl⟩
  refine ⟨fun c A lt e => ?_, fun c A lt e => ?_⟩
  · obtain ⟨x, m, rfl⟩ := go c A e
    have z := h _ m
    rw [if_pos lt] at z
    exact insB_ok z
  · obtain ⟨x, m, rfl⟩ := go c A e
    have z := h _ m
    rw [if_neg lt] at z
    exact isxB_ok z
end Pu
set_option Elab.async false
set_option linter.all false
set_option maxRecDepth 100000
set_option maxHeartbeats 4000000
namespace Pu
open PySem L2 Stp NdefX LamX
open PyProof.Rows hiding St
/-! ### a def whose code object is known (it makes lambdas) -/
section
variable {P : Program} {w : World} {K : PySem.W.Frag} {mg : Str → Option Value} {base : Heap} {G : GC} {x qual : Str} {st : Stmt} {f c : Addr} {fd : FuncData} {N ps : List Str} {k : Nat} {m : Env → T Fl}
theorem fn_okC (F : Fun K x qual st f fd) (S : FnScope N ps (defScope st)) (hc : fd.code = .ref c)
    (hb : ∀ (A : Around) (outer : List PySem.Env) (s : Shared) (H : Hp) (E : XK), Room k (A.deeper (envOfC qual (defScope st) s.heap.objs.size f (.ref c))) →
      PSs (cxOf (L2.CX P w) P w K mg base N qual (defScope st) f (.ref c) A outer s H E) (defBody st) (tS G (fun cls d _ H => E cls d H) m)) : FnOk P w K mg base (L2.CX P w) (k + 1) f fd ps (spM G ps.length (runF N.length m)) := by
  obtain ⟨oc, od, kV, doc, pm, an, cdv, ct, osl, rfl, lk, hcd⟩ := F.ex
  have hc : cdv = .ref c := hc
  subst hc
  exact fn_of lk hcd S (fun vs H Q E h => spM_len h) fun A outer s H vs Q E hr h => ⟨_, hb A outer s H E hr, sp_read h⟩
theorem fn_initC (F : Fun K x qual st f fd) (S : FnScope N ps (defScope st)) (hc : fd.code = .ref c)
    (hb : ∀ (A : Around) (outer : List PySem.Env) (s : Shared) (H : Hp) (E : XK), Room k (A.deeper (envOfC qual (defScope st) s.heap.objs.size f (.ref c))) →
      PSs (cxOf (L2.CX P w) P w K mg base N qual (defScope st) f (.ref c) A outer s H E) (defBody st) (tS G (fun cls d _ H => E cls d H) m)) : FnOk P w K mg base (L2.CX P w) (k + 1) f fd ps (spI G ps.length (runI N.length m)) := by
  obtain ⟨oc, od, kV, doc, pm, an, cdv, ct, osl, rfl, lk, hcd⟩ := F.ex
  have hc : cdv = .ref c := hc
  subst hc
  refine fn_of lk hcd S (fun vs H Q E h => ?_) fun A outer s H vs Q E hr h => ⟨_, hb A outer s H E hr, spI_read h⟩
  obtain ⟨_, _, _, _, _, _, _, _, ws, ds, rfl, _, _, _, rl, hl, _⟩ := h
  rw [List.length_cons, rl.length, hl]
theorem fnG_okC (F : Fun K x qual st f fd) (S : FnScope N ps (defScope st)) (hc : fd.code = .ref c)
    (hb : ∀ (A : Around) (outer : List PySem.Env) (s : Shared) (H : Hp) (E : XK), Room k (A.deeper (envOfC qual (defScope st) s.heap.objs.size f (.ref c))) → (A.deeper (envOfC qual (defScope st) s.heap.objs.size f (.ref c))).guards = some [] →
      PSs (cxOf (L2.CX P w) P w K mg base N qual (defScope st) f (.ref c) A outer s H E) (defBody st) (tS G (fun cls d _ H => E cls d H) m)) : FnG P w K mg base (k + 1) f fd ps (spM G ps.length (runF N.length m)) := by
  obtain ⟨oc, od, kV, doc, pm, an, cdv, ct, osl, rfl, lk, hcd⟩ := F.ex
  have hc : cdv = .ref c := hc
  subst hc
  exact ⟨fun vs H Q E h => spM_len h, fun A outer s H args us vs Q E hr hg e0 b r h => run_ofS lk hcd S hr e0 b r (spM_len h) fun hr' => ⟨_, hb A outer s H E hr' hg, sp_read h⟩⟩
end
def codeB (p : He.Defn) (K : Fg) : Bool := match (fdAt K (He.fAd K p)).code with
  | .ref c => decide (c = He.codeOf K p)
  | _ => false
theorem codeB_ok {p : He.Defn} {K : Fg} (h : codeB p K = true) : (fdAt K (He.fAd K p)).code = .ref (He.codeOf K p) := by
  unfold codeB at h
  split at h
  · rename_i c e
    rw [e, of_decide_eq_true h]
  · cases h
/-! ### a call that looks at owned things -/
def Cf.all (C : Cf) (H : Hp) : Cf := ⟨fun a => C.F a ∨ (a ∉ C.pa ∧ ∃ o, H a = some o ∧ noTbl o), C.pen, C.me⟩
def Cf.beh (C : Cf) (H : Hp) (C' : Cf) : Cf := ⟨fun a => C.F a ∨ (C'.F a ∧ H a = none), C'.pen, C'.me⟩
mutual
def flatTr : D → Bool
  | .tup xs => flatTrL xs
  | .wt xs => flatTrL xs
  | .lst _ => false
  | .dK _ => false
  | .dT _ => false
  | .obj _ _ => false
  | .fn _ _ => false
  | _ => true
def flatTrL : List D → Bool
  | [] => true
  | d :: ds => flatTr d && flatTrL ds
end
section
variable {G : GC} {C C' : Cf} {H H' : Hp} {n n' : Nat}
theorem all_nx : Nx (C.vw true) (C.all H) H H := ⟨fun a o f e t => ⟨f.elim .inl fun q => .inr ⟨q.2, o, e, t⟩, e⟩, fun _ _ h => h, fun _ _ _ h => h, fun _ _ h => h, fun _ h => h⟩
theorem all_wf (w : Wf G C n H) : Wf G (C.all H) n H := ⟨w.pen, fun a f => f.elim (w.fz a) fun q => ⟨q.2, q.1⟩, w.tab⟩
theorem beh_step (s : Step [] (C.all H) H C' H') : Step [] C H (C.beh H C') H' :=
  ⟨fun a o e t z p => s.kp a o e t z p, s.al, ⟨fun a o f e t => ⟨.inl f, (s.nx.fk a o (.inl f) e t).2⟩, s.nx.tp, s.nx.fp, s.nx.xp, s.nx.pn⟩, fun a f => f.elim .inl fun q => .inr (.inr q.2), s.pf, s.me⟩
theorem beh_wf (w : Wf G C n H) (s : Step [] (C.all H) H C' H') (w' : Wf G C' n' H') : Wf G (C.beh H C') n' H' := by
  refine ⟨w'.pen, fun a f => ?_, w'.tab⟩
  rcases f with f | f
  · obtain ⟨⟨o, e, t⟩, _⟩ := w.fz a f
    obtain ⟨f', e'⟩ := s.nx.fk a o (.inl f) e t
    exact ⟨⟨o, e', t⟩, (w'.fz a f').2⟩
  · exact w'.fz a f.1
theorem beh_nx (w' : Wf G C' n' H') : Nx C' ((C.beh H C').vw true) H' H' := ⟨fun a o f e _ => ⟨.inr ⟨rfl, (w'.fz a f).2⟩, e⟩, fun _ _ h => h, fun _ _ _ h => h, fun _ _ h => h, fun _ h => h⟩
mutual
theorem Rep.flt : ∀ {v : V} {d : D}, Rep G (C.vw true) H v d → flatTr d = true → Rep G C H v d
  | _, _, .non, _ => .non
  | _, _, .bl b, _ => .bl b
  | _, _, .int i, _ => .int i
  | _, _, .str x, _ => .str x
  | _, _, .tup h l, e => .tup h (RepL.flt l (by simpa [flatTr] using e))
  | _, _, .wt h l, e => .wt h (RepL.flt l (by simpa [flatTr] using e))
  | _, _, .exc h c, _ => .exc h c
  | _, _, .ty x, _ => .ty x
  | _, _, .cls c, _ => .cls c
  | _, _, .pen h, _ => .pen h
  | _, _, .scr h, _ => .scr h
  | _, _, .lst _ _ _, e => by simp [flatTr] at e
  | _, _, .dK _ _ _, e => by simp [flatTr] at e
  | _, _, .dT _ _ _, e => by simp [flatTr] at e
  | _, _, .obj _ _ _ _, e => by simp [flatTr] at e
  | _, _, .fn _ _, e => by simp [flatTr] at e
theorem RepL.flt : ∀ {v : List V} {d : List D}, RepL G (C.vw true) H v d → flatTrL d = true → RepL G C H v d
  | _, _, .nil, _ => .nil
  | _, _, .cons h l, e => by
    rw [flatTrL] at e
    obtain ⟨e1, e2⟩ := Bool.and_eq_true_iff.mp e
    exact .cons (Rep.flt h e1) (RepL.flt l e2)
end
end
def flatT (d : D) : T D := grd (flatTr d = true) (.ret d)
section
variable {X : Cx} {G : GC} {W : WX} {k : Nat} {f : Addr} {fd : FuncData} {ps : List Str} {x : Str} {p pos : Pos} {e : Expr} {es : List Expr} {m : Env → T D} {ma : Env → T (List D)} {mf : List D → T D}
/-- a look whose value has no lists -/
theorem s_flat (h : PE X e (tQ G W true m)) : PE X e (tQ G W false (q1 flatT m)) := PE.imp h fun σ H Q h => by
  obtain ⟨C, n, env, us, h⟩ := h
  refine ⟨C, n, env, us, (h.bind (R := rV G true)).imp ?_⟩
  rintro v H1 ⟨C1, n1, d, s1, r1, h1⟩
  obtain ⟨hf, h1⟩ := h1.grd
  exact h1.ret ((r1.flt hf).view false)
theorem callW_sp {C : Cf} {n : Nat} {H : Hp} {σ : St} {env : Env} {us : List Addr} {vs : List V} {ds : List D} {Q : VK} (np : Nat) (h : At G W (rV G true) σ env us C n H (grd (ds.length = np) (mf ds)) Q) (r : RepL G (C.vw true) H vs ds) : spM G np mf vs H Q (WE W σ) := by
  obtain ⟨hl, h1⟩ := h.grd
  have wf := h1.ok.wf
  refine ⟨C.all H, n, ds, all_wf wf, r.nx all_nx, hl, T.wp_mono h1.wp (fun d n' _ z C' H' v s w r => ?_) (fun e n' _ z C' H' cls dx s w r => ?_)⟩
  · exact z (C.beh H C') H' v (beh_step s) (beh_wf wf s w) (r.nx (beh_nx w))
  · exact z (C.beh H C') H' cls dx (beh_step s) (beh_wf wf s w) r
theorem s_callW (tk : Takes X W) (F : FnOk X.prog X.w X.K X.mg X.base (L2.CX X.prog X.w) k f fd ps (spM G ps.length mf)) (hr : Room k X.A) (hg : Gl X x) (hm : X.mg x = some (.ref f)) (hk : PySem.W.keepIn X.K (.ref f) = true) (hb : Binds X.K fd ps [])
    (ha : PA X (e :: es) (tA G W true ma)) (hdb : (x == ("__debug__" : Str)) = false := by decide) (he : starEach (e :: es) X.env = (false, eval e X.env) :: starEach es X.env := by rfl) (hpl : (backTo pos (starEach es X.env)).any (·.1) = false := by rfl) :
    PE X (.Call (.Name x p) (e :: es) [] pos) (tQ G W true (qN (fun ds => grd (ds.length = ps.length) (mf ds)) ma)) := PE.imp (pe_callS F hr hg hm hk hb (fun σ => passAt tk σ) ha hdb he hpl) fun σ H Q h => by
  obtain ⟨C, n, env, us, h⟩ := h
  refine ⟨C, n, env, us, (h.bind (R := rA G true)).imp ?_⟩
  rintro vs H1 ⟨C1, n1, ds, s1, r1, h1⟩
  exact callW_sp ps.length h1 r1
theorem s_callGW (tk : Takes X W) (F : FnG X.prog X.w X.K X.mg X.base k f fd ps (spM G ps.length mf)) (hr : Room k X.A) (hgd : X.A.guards = some []) (hg : Gl X x) (hm : X.mg x = some (.ref f)) (hk : PySem.W.keepIn X.K (.ref f) = true) (hb : Binds X.K fd ps [])
    (ha : PA X (e :: es) (tA G W true ma)) (hdb : (x == ("__debug__" : Str)) = false := by decide) (he : starEach (e :: es) X.env = (false, eval e X.env) :: starEach es X.env := by rfl) (hpl : (backTo pos (starEach es X.env)).any (·.1) = false := by rfl) :
    PE X (.Call (.Name x p) (e :: es) [] pos) (tQ G W true (qN (fun ds => grd (ds.length = ps.length) (mf ds)) ma)) := by
  refine ⟨fun pins s σ H Q I h => ?_⟩
  refine wpAny_Call_Name_kw (ld_glob I hg hm ?_ hdb)
  obtain ⟨C, n, env, us, h⟩ := h
  have h' : tA G W true ma σ H (fun vs H1 => spM G ps.length mf vs H1 Q (WE W σ)) := by
    refine ⟨C, n, env, us, (h.bind (R := rA G true)).imp ?_⟩
    rintro vs H1 ⟨C1, n1, ds, s1, r1, h1⟩
    exact callW_sp ps.length h1 r1
  refine PySem.W.callWith_K (first := []) (h₀ := X.base) I.ok.mod.kin hk (thn (ha.run pos pins s σ H _ I h') fun us s2 ⟨vs, H2, I2, r2, q2⟩ => ⟨I2.kIn, ?_⟩) he hpl
  exact run_g tk F hr hgd hb I2 r2 q2
end
/-! ### methods of several classes -/
def MOks (X : Cx) (G : GC) (k : Nat) (m : Str) (ps : List Str) (L : EqL) : Prop := ∀ c mf, L.look c = some mf → ∃ A f fd, G.cA c = some A ∧ Cls X.K A ∧ Meth X.K A m f ∧ FnOk X.prog X.w X.K X.mg X.base (L2.CX X.prog X.w) k f fd ps (spM G ps.length mf) ∧ Binds X.K fd ps []
theorem moks_nil {X : Cx} {G : GC} {k : Nat} {m : Str} {ps : List Str} : MOks X G k m ps [] := fun _ _ e => by cases e
theorem moks_cons {X : Cx} {G : GC} {j k c : Nat} {m : Str} {ps : List Str} {L : EqL} {mf : List D → T D} {A f : Addr} {fd : FuncData} (h1 : G.cA c = some A) (h2 : Cls X.K A) (h3 : Meth X.K A m f) (h4 : FnOk X.prog X.w X.K X.mg X.base (L2.CX X.prog X.w) j f fd ps (spM G ps.length mf)) (hj : j ≤ k) (h5 : Binds X.K fd ps []) (r : MOks X G k m ps L) : MOks X G k m ps ((c, mf) :: L) := fun c' mf' e => by
  unfold EqL.look at e
  split at e
  · rename_i q
    cases e
    subst q
    exact ⟨A, f, fd, h1, h2, h3, h4.mono hj, h5⟩
  · exact r c' mf' e
def methD (L : EqL) (m : Str) (np : Nat) (ma : T (List D)) : D → T D
  | .obj c fs => (match L.look c with
    | some mf => if fs.lookup m = none then ma.bind fun ds => grd (ds.length + 1 = np) (mf (.obj c fs :: ds)) else .fail
    | none => .fail)
  | _ => .fail
def qMethU (L : EqL) (m : Str) (np : Nat) (mo : Env → T D) (ma : Env → T (List D)) : Env → T D := fun env => (mo env).bind (methD L m np (ma env))
section
variable {X : Cx} {G : GC} {W : WX} {k : Nat} {ps : List Str} {m : Str} {pos apos : Pos} {e o : Expr} {es : List Expr} {mo : Env → T D} {ma : Env → T (List D)} {L : EqL}
theorem methU_read {C1 : Cf} {n1 : Nat} {H1 : Hp} {σ : St} {env : Env} {us : List Addr} {v : V} {d : D} {Q : VK} (hL : MOks X G k m ps L) (r1 : Rep G (C1.vw false) H1 v d) (h1 : At G W (rV G false) σ env us C1 n1 H1 (methD L m ps.length (ma env) d) Q) :
    ∃ p A dx vs f fd mf c fs, v = .ref p ∧ H1 p = some (.ins A dx vs) ∧ vs.lookup m = none ∧ Cls X.K A ∧ Meth X.K A m f ∧ FnOk X.prog X.w X.K X.mg X.base (L2.CX X.prog X.w) k f fd ps (spM G ps.length mf) ∧ Binds X.K fd ps [] ∧ Rep G C1 H1 v (.obj c fs) ∧
      At G W (rV G false) σ env us C1 n1 H1 ((ma env).bind fun ds => grd (ds.length + 1 = ps.length) (mf (.obj c fs :: ds))) Q := by
  have r1 := r1.unview
  cases r1 <;> try exact h1.no.elim
  case obj p A' dx c vs ds fp hp hA l =>
    have h1 : At G W (rV G false) σ env us C1 n1 H1 (match L.look c with
      | some mf => if ds.lookup m = none then (ma env).bind fun es => grd (es.length + 1 = ps.length) (mf (.obj c ds :: es)) else .fail
      | none => .fail) Q := h1
    cases q : L.look c with
    | none => rw [q] at h1; exact h1.no.elim
    | some mf =>
      rw [q] at h1
      have h1 : At G W (rV G false) σ env us C1 n1 H1 (if ds.lookup m = none then (ma env).bind fun es => grd (es.length + 1 = ps.length) (mf (.obj c ds :: es)) else .fail) Q := h1
      by_cases hc : ds.lookup m = none
      · rw [if_pos hc] at h1
        obtain ⟨A, f, fd, g1, g2, g3, g4, g5⟩ := hL c mf q
        have hA2 : A = A' := Option.some.inj (g1.symm.trans hA)
        subst hA2
        exact ⟨p, A, dx, vs, f, fd, mf, c, ds, rfl, hp, l.none m hc, g2, g3, g4, g5, .obj fp hp hA l, h1⟩
      · rw [if_neg hc] at h1; exact h1.no.elim
theorem s_methU {pl : Sem Bool} (tk : Takes X W) (hL : MOks X G k m ps L) (hr : Room k X.A) (ho : PE X o (tQ G W false mo)) (ha : PA X (e :: es) (tA G W false ma))
    (hst : starEach (e :: es) X.env = (false, eval e X.env) :: starEach es X.env := by rfl) (hpl : (backTo pos (starEach es X.env)).any (·.1) = false := by rfl)
    (ht : eval (.Call (.Attribute o m apos) (e :: es) [] pos) X.env = (do
      let ov ← eval o X.env
      standAt apos.atName
      let (f, first) ← holding [ov] (getMethod ov m pl)
      callWith pos f first (backTo pos (starEach (e :: es) X.env)) (backToKw pos (keywordEach [] X.env))) := by rfl) :
    PE X (.Call (.Attribute o m apos) (e :: es) [] pos) (tQ G W false (qMethU L m ps.length mo ma)) := ⟨fun pins s σ H Q I h => by
  obtain ⟨C, n, env, us, h⟩ := h
  refine PySem.W.methodCall_KW (pl := pl) (thn (ho.run pins s σ H _ I ⟨C, n, env, us, (h.bind (R := rV G false))⟩) fun u s1 hh => ?_) ht
  obtain ⟨x, H1, I1, rx, C1, n1, d, st1, r1, h1⟩ := hh
  obtain ⟨p, A, dx, vs, f, fd, mf, c, fs, ex, hp, hl, g2, g3, g4, g5, ro, h1⟩ := methU_read hL r1 h1
  subst ex
  cases rx
  have h' : tA G W false ma σ H1 (fun vs H2 => spM G ps.length mf (.ref p :: vs) H2 Q (WE W σ)) := by
    refine ⟨C1, n1, env, us, (h1.bind (R := rA G false)).imp ?_⟩
    rintro us2 H2 ⟨C2, n2, es, s2, r2, h2⟩
    obtain ⟨hl, h2⟩ := h2.grd
    exact ⟨C2, n2, .obj c fs :: es, h2.ok.wf, .cons (ro.nx s2.nx) (r2.nx (Nx.unview _ _)), hl, T.wp_mono h2.wp (fun d n' _ z C' H' v s w r => z C' H' v s w (r.view false)) (fun e n' _ z C' H' cls dx s w r => z C' H' cls dx s w r)⟩
  refine getmeth_ok I1 hp g2 g3 hl (PySem.W.callWith_K (first := [.ref p]) (h₀ := X.base) I.ok.mod.kin g3.kp (thn (ha.run pos pins s1 σ H1 _ I1 h') fun us s2 hq => ?_) hst hpl)
  obtain ⟨vs, H2, I2, r, q2⟩ := hq
  exact ⟨I2.kIn, run_fnS (us := .ref p :: us) (vs := .ref p :: vs) g4 hr g5 (passAt tk σ) I2 (.cons rfl r) q2⟩⟩
theorem s_methU0 {pl : Sem Bool} (tk : Takes X W) (hL : MOks X G k m ps L) (hr : Room k X.A) (ho : PE X o (tQ G W false mo))
    (ht : eval (.Call (.Attribute o m apos) [] [] pos) X.env = (do
      let ov ← eval o X.env
      standAt apos.atName
      let (f, first) ← holding [ov] (getMethod ov m pl)
      callWith pos f first (backTo pos (starEach [] X.env)) (backToKw pos (keywordEach [] X.env))) := by rfl) :
    PE X (.Call (.Attribute o m apos) [] [] pos) (tQ G W false (qMethU L m ps.length mo aNil)) := ⟨fun pins s σ H Q I h => by
  obtain ⟨C, n, env, us, h⟩ := h
  refine PySem.W.methodCall_KW (pl := pl) (thn (ho.run pins s σ H _ I ⟨C, n, env, us, (h.bind (R := rV G false))⟩) fun u s1 hh => ?_) ht
  obtain ⟨x, H1, I1, rx, C1, n1, d, st1, r1, h1⟩ := hh
  obtain ⟨p, A, dx, vs, f, fd, mf, c, fs, ex, hp, hl, g2, g3, g4, g5, ro, h1⟩ := methU_read (ma := aNil) hL r1 h1
  subst ex
  cases rx
  have h1 : At G W (rV G false) σ env us C1 n1 H1 (grd (([] : List D).length + 1 = ps.length) (mf (.obj c fs :: []))) Q := h1
  obtain ⟨hl2, h2⟩ := h1.grd
  refine getmeth_ok I1 hp g2 g3 hl (PySem.W.callWith_K0 (first := [.ref p]) I1.kIn g3.kp (run_fnS (us := [.ref p]) (vs := [.ref p]) g4 hr g5 (passAt tk σ) I1 (.cons rfl .nil) ?_))
  exact ⟨C1, n1, [.obj c fs], h2.ok.wf, .cons ro .nil, hl2, T.wp_mono h2.wp (fun d n' _ z C' H' v s w r => z C' H' v s w (r.view false)) (fun e n' _ z C' H' cls dx s w r => z C' H' cls dx s w r)⟩⟩
end
end Pu
set_option Elab.async false
set_option linter.all false
set_option maxRecDepth 100000
set_option maxHeartbeats 4000000
namespace Pu
open PySem L2 Stp NdefX LamX
open PyProof.Rows hiding St
section
variable {X : Cx} {G : GC} {W : WX} {b : Bool} {pos : Pos}
theorem s_dict0 : PE X (.Dict [] [] pos) (tQ G W b fun _ => .ret (.dK [])) := PE.imp pe_dnewK fun σ H Q k => by
  obtain ⟨C, n, env, us, k⟩ := k
  intro p hp
  have s := step_new (C := C) (o := .dK []) hp
  exact k.retS s (k.ok.wf.new hp fun _ z => nomatch z) (.dK (.inl (.inl rfl)) upd_same .nil)
end
section
variable {X : Cx} {G : GC} {E : XK} {k c : Nat} {f A : Addr} {fd : FuncData} {ps : List Str} {x : Str} {p pos : Pos} {e : Expr} {es : List Expr} {ma : Env → T (List D)} {mi : Nat → List (Str × D) → List D → T (List (Str × D))}
theorem s_mak (tk : Takes X (fun cls d _ H => E cls d H)) (hA : G.cA c = some A) (M : Mk X.K A f) (F : FnOk X.prog X.w X.K X.mg X.base (L2.CX X.prog X.w) k f fd ps (spI G ps.length mi)) (hr : Room (k + 1) X.A) (hg : Gl X x) (hm : X.mg x = some (.ref A)) (hb : Binds X.K fd ps [])
    (ha : PA X (e :: es) (tA G (fun cls d _ H => E cls d H) false ma)) (hdb : (x == ("__debug__" : Str)) = false := by decide) (he : starEach (e :: es) X.env = (false, eval e X.env) :: starEach es X.env := by rfl) (hpl : (backTo pos (starEach es X.env)).any (·.1) = false := by rfl) :
    PE X (.Call (.Name x p) (e :: es) [] pos) (tQ G (fun cls d _ H => E cls d H) false (qN (fun ds => grd (ds.length + 1 = ps.length) ((mi c [] ds).bind fun fs => .ret (.obj c fs))) ma)) :=
  s_make (fun pins σ H s e s' I c => passAt tk σ pins H s e s' I c) hA M F hr hg hm hb ha hdb he hpl
end
/-! ### written tuples -/
def dvV : D → V
  | .int i => .int i
  | .str x => .str x
  | .bl b => .bl b
  | _ => .non
def dvB : D → Value → Bool
  | .non, .none => true
  | .int i, .int j _ => decide (i = j)
  | .str x, .str y _ => decide (x = y)
  | .bl a, .bool b => a == b
  | _, _ => false
def dvsB : List D → List Value → Bool
  | [], [] => true
  | d :: ds, v :: vs => dvB d v && dvsB ds vs
  | _, _ => false
theorem dvB_rep {G : GC} {C : Cf} {H : Hp} : ∀ {d : D} {u : Value}, dvB d u = true → L2.RelV (dvV d) u ∧ Rep G C H (dvV d) d := by
  intro d u h
  cases d <;> cases u <;> first
    | (have h : false = true := h; cases h; done)
    | exact ⟨rfl, .non⟩
    | (have e := of_decide_eq_true (show decide _ = true from h); subst e; exact ⟨⟨_, rfl⟩, .int _⟩)
    | (have e := of_decide_eq_true (show decide _ = true from h); subst e; exact ⟨⟨_, rfl⟩, .str _⟩)
    | (have e := eq_of_beq (show (_ == _) = true from h); subst e; exact ⟨rfl, .bl _⟩)
theorem dvsB_rep {G : GC} {C : Cf} {H : Hp} : ∀ {ds : List D} {us : List Value}, dvsB ds us = true → Vals (ds.map dvV) us ∧ RepL G C H (ds.map dvV) ds
  | [], [], _ => ⟨.nil, .nil⟩
  | [], _ :: _, h => by simp [dvsB] at h
  | _ :: _, [], h => by simp [dvsB] at h
  | d :: ds, u :: us, h => by
    rw [dvsB] at h
    obtain ⟨h1, h2⟩ := Bool.and_eq_true_iff.mp h
    obtain ⟨a1, a2⟩ := dvB_rep (G := G) (C := C) (H := H) h1
    obtain ⟨b1, b2⟩ := dvsB_rep (G := G) (C := C) (H := H) h2
    exact ⟨.cons a1 b1, .cons a2 b2⟩
def tupB (x : Str) (ds : List D) (K : Fg) : Bool := (He.Fa.glo x).ok K && (match K.lookup (He.ga K x) with
  | some ⟨.type c, _, .seq its _, _⟩ => decide (c = "tuple") && (Nat.ble its.size 1000 && dvsB ds its.toList)
  | _ => false)
theorem tupB_ok {G : GC} {h : Heap} {mg : Str → Option Value} {x : Str} {ds : List D} (X : G.K.In h) (Gm : h.Ns mainGlobals mg) (c : tupB x ds G.K = true) : ∃ a, mg x = some (.ref a) ∧ ∀ C H, Rep G C H (.ref a) (.wt ds) := by
  unfold tupB at c
  obtain ⟨c1, c2⟩ := Bool.and_eq_true_iff.mp c
  refine ⟨_, He.glo_ok X Gm c1, fun C H => ?_⟩
  split at c2
  · rename_i cn od its n sl e
    obtain ⟨q1, q2⟩ := Bool.and_eq_true_iff.mp c2
    obtain ⟨q2, q3⟩ := Bool.and_eq_true_iff.mp q2
    obtain ⟨v1, v2⟩ := dvsB_rep (G := G) (C := C) (H := H) q3
    refine .wt (.inr ⟨_, its, n, e, congrArg Value.type (of_decide_eq_true q1), rfl, Nat.le_trans (Nat.le_of_ble_eq_true q2) (by rw [sizeLine_eq]; decide), v1⟩) v2
  · cases c2
/-! ### facts of classes, by a table of names -/
theorem look_of {tb : List (Nat × Str)} {cs : List Nat} {xs : List Str} (h : cs.map (tb.lookup ·) = xs.map some) : ∀ c ∈ cs, ∃ x ∈ xs, tb.lookup c = some x := by
  intro c hc
  have : tb.lookup c ∈ xs.map some := by
    rw [← h]
    exact List.mem_map_of_mem hc
  obtain ⟨x, hx, e⟩ := List.mem_map.mp this
  exact ⟨x, hx, e.symm⟩
theorem cA_of {G : GC} {tb : List (Nat × Str)} {c : Nat} {A : Addr} {x : Str} (hc : G.cA = cNames tb G.K) (h : tb.lookup c = some x) (e : G.cA c = some A) : A = He.ga G.K x := by
  rw [hc] at e
  unfold cNames at e
  rw [h] at e
  cases e
  rfl
theorem prop_of {G : GC} {tb : List (Nat × Str)} {cs : List Nat} {xs : List Str} {y f : Str} (hc : G.cA = cNames tb G.K) (hcs : cs.map (tb.lookup ·) = xs.map some) (h : (xs.all fun x => (He.Fa.cls x).ok G.K && propB x y f G.K) = true) :
    ∀ c ∈ cs, ∀ A, G.cA c = some A → Cls G.K A ∧ ∃ p, PropOf G.K A f p (gAd y f G.K) := by
  intro c m A e
  obtain ⟨x, hx, q⟩ := look_of hcs c m
  rw [cA_of hc q e]
  obtain ⟨a1, a2⟩ := Bool.and_eq_true_iff.mp (List.all_eq_true.mp h x hx)
  exact ⟨He.cls_ok a1, _, propB_ok a2⟩
theorem fld_of {G : GC} {tb : List (Nat × Str)} {cs : List Nat} {xs : List Str} {f : Str} (hc : G.cA = cNames tb G.K) (hcs : cs.map (tb.lookup ·) = xs.map some) (h : (xs.all fun x => (He.Fa.cls x).ok G.K && (He.Fa.noat x f).ok G.K) = true) :
    ∀ c ∈ cs, ∀ A, G.cA c = some A → Cls G.K A ∧ NoAttr G.K A f := by
  intro c m A e
  obtain ⟨x, hx, q⟩ := look_of hcs c m
  rw [cA_of hc q e]
  obtain ⟨a1, a2⟩ := Bool.and_eq_true_iff.mp (List.all_eq_true.mp h x hx)
  exact ⟨He.cls_ok a1, He.noat_ok a2⟩
theorem methC_ok {K : Fg} {x y m : Str} (h : ((He.Fa.cls x).ok K && methB x y m K) = true) : Cls K (He.ga K x) ∧ Meth K (He.ga K x) m (mAd y m K) := by
  obtain ⟨a1, a2⟩ := Bool.and_eq_true_iff.mp h
  exact ⟨He.cls_ok a1, methB_ok a2⟩
def exmB (tb : List (Nat × Str)) (x : Str) (r : Nat × Bool) (K : Fg) : Bool := match tb.lookup r.1 with
  | some y => (He.Fa.exm y x r.2).ok K
  | none => false
theorem exm_of {G : GC} {tb : List (Nat × Str)} {x : Str} {rows : List (Nat × Bool)} (hc : G.cA = cNames tb G.K) (h : (rows.all fun r => exmB tb x r G.K) = true) : ∀ k A b, rows.lookup k = some b → G.cA k = some A → PySem.W.exmOne G.K (.ref A) (.ref (He.ga G.K x)) = some b := by
  intro k A b e hA
  have m := List.all_eq_true.mp h _ (lookup_mem' e)
  unfold exmB at m
  cases q : tb.lookup k with
  | none => rw [q] at m; cases m
  | some y =>
    rw [q] at m
    rw [cA_of hc q hA]
    exact He.exm_ok m
theorem tu_nd {T : List NTab} (nd : (T.map (·.1)).Nodup) {q : NTab} (hq : q ∈ T) : ∀ p ∈ T, p.1 = q.1 → p.2 = q.2 := by
  induction T with
  | nil => cases hq
  | cons a l ih =>
    rw [List.map_cons, List.nodup_cons] at nd
    intro p hp e
    rcases List.mem_cons.mp hp with e1 | hp1
    · rcases List.mem_cons.mp hq with e2 | hq1
      · rw [e1, e2]
      · exact absurd (by rw [← e1, e]; exact List.mem_map_of_mem hq1) nd.1
    · rcases List.mem_cons.mp hq with e2 | hq1
      · exact absurd (by rw [← e2, ← e]; exact List.mem_map_of_mem hp1) nd.1
      · exact ih nd.2 hq1 p hp1 e
def isC (c i : Nat) (env : Env) : Bool := match env[i]? with
  | some (some (.fz (.obj c' _))) => c' == c
  | _ => false
section
variable {X : Cx} {G : GC} {W : WX} {x : Str}
theorem names_of {c : Value} (hg : Gl X x) (hm : X.mg x = some c) (hdb : (x == ("__debug__" : Str)) = false := by decide) : Names X x c := ⟨hg, hdb, .inl hm⟩
theorem pts_1 {c : Expr} {ta : Env → T Bool} (h : PT X c (tT G W ta)) : PTs X [c] (tT G W ta) := pts_one h
theorem po_lam {P : Program} {w : World} {K : PySem.W.Frag} {mg : Str → Option Value} {base : Heap} {N : List Str} {F : NF} {f : Addr} {A : Around} {outer : List PySem.Env} {s : Shared} {H : Hp} {E : XK} : PassesOwn (model P w) (ncx (L2.CX P w) P w K mg base N F f A outer s H E).A (ncx (L2.CX P w) P w K mg base N F f A outer s H E).env (ncx (L2.CX P w) P w K mg base N F f A outer s H E).xe := passes_of rfl
end
def hd0 (st : Stmt) : Stmt := match defBody st with
  | a :: _ => a
  | [] => .Pass ⟨0, 0, 0, 0⟩
def tl0 (st : Stmt) : List Stmt := (defBody st).tail
instance : Inhabited Pos := ⟨⟨0, 0, 0, 0⟩⟩
def lamZ : Arguments × Expr × Scope := (⟨[], [], none, [], [], none, []⟩, Expr.Constant .none 0 ⟨0, 0, 0, 0⟩, ⟨.function, [], false, false, []⟩)
theorem hU2 {A : Around} (h : A.units + 200 < cLine) (n : Nat) (hn : n ≤ 200 := by decide) : A.units + n < cLine := by omega
end Pu
set_option Elab.async false
set_option linter.all false
set_option maxRecDepth 100000
set_option maxHeartbeats 4000000
/-! runs with few outcomes: all of them are computed, equal ones joined at each statement -/
namespace Pu
open PySem L2 Stp
open PyProof.Rows hiding St
mutual
def D.bq : D → D → Bool
  | .non, .non => true
  | .bl a, .bl b => a == b
  | .int a, .int b => decide (a = b)
  | .str a, .str b => decide (a = b)
  | .tup a, .tup b => D.bqL a b
  | .lst a, .lst b => D.bqL a b
  | .wt a, .wt b => D.bqL a b
  | .dK a, .dK b => D.bqK a b
  | .dT a, .dT b => D.bqT a b
  | .obj c a, .obj d b => decide (c = d) && D.bqF a b
  | .exc c a, .exc d b => decide (c = d) && D.bqF a b
  | .fn c a, .fn d b => decide (c = d) && D.bqL a b
  | .ty a, .ty b => decide (a = b)
  | .cls a, .cls b => decide (a = b)
  | .pen, .pen => true
  | .scr, .scr => true
  | _, _ => false
def D.bqL : List D → List D → Bool
  | [], [] => true
  | a :: l, b :: r => D.bq a b && D.bqL l r
  | _, _ => false
def D.bqK : List (Key × D) → List (Key × D) → Bool
  | [], [] => true
  | (k, a) :: l, (j, b) :: r => decide (k = j) && (D.bq a b && D.bqK l r)
  | _, _ => false
def D.bqT : List (List Key × D) → List (List Key × D) → Bool
  | [], [] => true
  | (k, a) :: l, (j, b) :: r => decide (k = j) && (D.bq a b && D.bqT l r)
  | _, _ => false
def D.bqF : List (Str × D) → List (Str × D) → Bool
  | [], [] => true
  | (k, a) :: l, (j, b) :: r => decide (k = j) && (D.bq a b && D.bqF l r)
  | _, _ => false
end
theorem band {a b : Bool} (h : (a && b) = true) : a = true ∧ b = true := Bool.and_eq_true_iff.mp h
mutual
theorem D.bq_eq : ∀ (a b : D), D.bq a b = true → a = b
  | .non, b, h => by cases b <;> first | rfl | (simp [D.bq] at h; done)
  | .bl x, b, h => by
    cases b <;> first | (simp [D.bq] at h; done) | (simp [D.bq] at h; rw [h])
  | .int x, b, h => by
    cases b <;> first | (simp [D.bq] at h; done) | (simp [D.bq] at h; rw [h])
  | .str x, b, h => by
    cases b <;> first | (simp [D.bq] at h; done) | (simp [D.bq] at h; rw [h])
  | .tup x, b, h => by
    cases b <;> first | (simp [D.bq] at h; done) | (simp only [D.bq] at h; rw [D.bqL_eq x _ h])
  | .lst x, b, h => by
    cases b <;> first | (simp [D.bq] at h; done) | (simp only [D.bq] at h; rw [D.bqL_eq x _ h])
  | .wt x, b, h => by
    cases b <;> first | (simp [D.bq] at h; done) | (simp only [D.bq] at h; rw [D.bqL_eq x _ h])
  | .dK x, b, h => by
    cases b <;> first | (simp [D.bq] at h; done) | (simp only [D.bq] at h; rw [D.bqK_eq x _ h])
  | .dT x, b, h => by
    cases b <;> first | (simp [D.bq] at h; done) | (simp only [D.bq] at h; rw [D.bqT_eq x _ h])
  | .obj c x, b, h => by
    cases b <;> first | (simp [D.bq] at h; done) | (simp only [D.bq] at h; rw [of_decide_eq_true (band h).1, D.bqF_eq x _ (band h).2])
  | .exc c x, b, h => by
    cases b <;> first | (simp [D.bq] at h; done) | (simp only [D.bq] at h; rw [of_decide_eq_true (band h).1, D.bqF_eq x _ (band h).2])
  | .fn c x, b, h => by
    cases b <;> first | (simp [D.bq] at h; done) | (simp only [D.bq] at h; rw [of_decide_eq_true (band h).1, D.bqL_eq x _ (band h).2])
  | .ty x, b, h => by
    cases b <;> first | (simp [D.bq] at h; done) | (simp [D.bq] at h; rw [h])
  | .cls x, b, h => by
    cases b <;> first | (simp [D.bq] at h; done) | (simp [D.bq] at h; rw [h])
  | .pen, b, h => by cases b <;> first | rfl | (simp [D.bq] at h; done)
  | .scr, b, h => by cases b <;> first | rfl | (simp [D.bq] at h; done)
theorem D.bqL_eq : ∀ (a b : List D), D.bqL a b = true → a = b
  | [], [], _ => rfl
  | [], _ :: _, h => by simp [D.bqL] at h
  | _ :: _, [], h => by simp [D.bqL] at h
  | a :: l, b :: r, h => by
    simp only [D.bqL] at h
    rw [D.bq_eq a b (band h).1, D.bqL_eq l r (band h).2]
theorem D.bqK_eq : ∀ (a b : List (Key × D)), D.bqK a b = true → a = b
  | [], [], _ => rfl
  | [], _ :: _, h => by simp [D.bqK] at h
  | _ :: _, [], h => by simp [D.bqK] at h
  | (k, a) :: l, (j, b) :: r, h => by
    simp only [D.bqK] at h
    rw [of_decide_eq_true (band h).1, D.bq_eq a b (band (band h).2).1, D.bqK_eq l r (band (band h).2).2]
theorem D.bqT_eq : ∀ (a b : List (List Key × D)), D.bqT a b = true → a = b
  | [], [], _ => rfl
  | [], _ :: _, h => by simp [D.bqT] at h
  | _ :: _, [], h => by simp [D.bqT] at h
  | (k, a) :: l, (j, b) :: r, h => by
    simp only [D.bqT] at h
    rw [of_decide_eq_true (band h).1, D.bq_eq a b (band (band h).2).1, D.bqT_eq l r (band (band h).2).2]
theorem D.bqF_eq : ∀ (a b : List (Str × D)), D.bqF a b = true → a = b
  | [], [], _ => rfl
  | [], _ :: _, h => by simp [D.bqF] at h
  | _ :: _, [], h => by simp [D.bqF] at h
  | (k, a) :: l, (j, b) :: r, h => by
    simp only [D.bqF] at h
    rw [of_decide_eq_true (band h).1, D.bq_eq a b (band (band h).2).1, D.bqF_eq l r (band (band h).2).2]
end
def bqLL : List (List D) → List (List D) → Bool
  | [], [] => true
  | a :: l, b :: r => D.bqL a b && bqLL l r
  | _, _ => false
theorem bqLL_eq : ∀ (a b : List (List D)), bqLL a b = true → a = b
  | [], [], _ => rfl
  | [], _ :: _, h => by simp [bqLL] at h
  | _ :: _, [], h => by simp [bqLL] at h
  | a :: l, b :: r, h => by
    simp only [bqLL] at h
    rw [D.bqL_eq a b (band h).1, bqLL_eq l r (band h).2]
def O.bq : O → O → Bool
  | .fz a, .fz b => D.bq a b
  | .me c a, .me d b => decide (c = d) && D.bqF a b
  | .ls a, .ls b => D.bqL a b
  | .dk a, .dk b => D.bqK a b
  | .dt a, .dt b => D.bqT a b
  | .ll a, .ll b => bqLL a b
  | .ob c a, .ob d b => decide (c = d) && D.bqF a b
  | .tl j a b, .tl k c d => decide (j = k) && (D.bqL a c && D.bqL b d)
  | _, _ => false
theorem O.bq_eq (a b : O) (h : O.bq a b = true) : a = b := by
  cases a <;> cases b <;> first
    | (simp [O.bq] at h; done)
    | (simp only [O.bq] at h; rw [D.bq_eq _ _ h])
    | (simp only [O.bq] at h; rw [D.bqL_eq _ _ h])
    | (simp only [O.bq] at h; rw [D.bqK_eq _ _ h])
    | (simp only [O.bq] at h; rw [D.bqT_eq _ _ h])
    | (simp only [O.bq] at h; rw [bqLL_eq _ _ h])
    | (simp only [O.bq] at h; rw [of_decide_eq_true (band h).1, D.bqF_eq _ _ (band h).2])
    | (simp only [O.bq] at h; rw [of_decide_eq_true (band h).1, D.bqL_eq _ _ (band (band h).2).1, D.bqL_eq _ _ (band (band h).2).2])
def Env.bq : Env → Env → Bool
  | [], [] => true
  | none :: l, none :: r => Env.bq l r
  | some a :: l, some b :: r => O.bq a b && Env.bq l r
  | _, _ => false
theorem Env.bq_eq : ∀ (a b : Env), Env.bq a b = true → a = b
  | [], [], _ => rfl
  | [], _ :: _, h => by simp [Env.bq] at h
  | none :: _, [], h => by simp [Env.bq] at h
  | some _ :: _, [], h => by simp [Env.bq] at h
  | none :: l, none :: r, h => by
    simp only [Env.bq] at h
    rw [Env.bq_eq l r h]
  | none :: l, some _ :: r, h => by simp [Env.bq] at h
  | some _ :: l, none :: r, h => by simp [Env.bq] at h
  | some a :: l, some b :: r, h => by
    simp only [Env.bq] at h
    rw [O.bq_eq a b (band h).1, Env.bq_eq l r (band h).2]
def Fl.bq : Fl → Fl → Bool
  | .nx a, .nx b => Env.bq a b
  | .bk a, .bk b => Env.bq a b
  | .ct a, .ct b => Env.bq a b
  | .rt a, .rt b => D.bq a b
  | .ex d a, .ex e b => D.bq d e && Env.bq a b
  | .ro a, .ro b => O.bq a b
  | _, _ => false
theorem Fl.bq_eq (a b : Fl) (h : Fl.bq a b = true) : a = b := by
  cases a <;> cases b <;> first
    | (simp [Fl.bq] at h; done)
    | (simp only [Fl.bq] at h; rw [D.bq_eq _ _ h])
    | (simp only [Fl.bq] at h; rw [Env.bq_eq _ _ h])
    | (simp only [Fl.bq] at h; rw [D.bq_eq _ _ (band h).1, Env.bq_eq _ _ (band h).2])
    | (simp only [Fl.bq] at h; rw [O.bq_eq _ _ h])
/-! ### all outcomes -/
def joinR {α : Type} (f : Nat → Option (Nat × List α)) : Nat → Option (Nat × List α)
  | 0 => some (0, [])
  | u + 1 => match f u with
    | none => none
    | some (b, r) => match joinR f u with
      | none => none
      | some (a, l) => some (max a b, r ++ l)
theorem joinR_ok {α : Type} {f : Nat → Option (Nat × List α)} : ∀ {u : Nat} {k : Nat} {l : List α}, joinR f u = some (k, l) → ∀ d, d < u → ∃ b r, f d = some (b, r) ∧ b ≤ k ∧ ∀ x ∈ r, x ∈ l
  | 0, _, _, _, d, h => absurd h (by omega)
  | u + 1, k, l, e, d, h => by
    unfold joinR at e
    cases q : f u with
    | none => rw [q] at e; cases e
    | some p =>
      obtain ⟨b, r⟩ := p
      rw [q] at e
      dsimp only at e
      cases q2 : joinR f u with
      | none => rw [q2] at e; cases e
      | some p2 =>
        obtain ⟨a, l2⟩ := p2
        rw [q2] at e
        cases e
        by_cases hd : d = u
        · subst hd
          exact ⟨b, r, q, Nat.le_max_right .., fun x m => List.mem_append_left _ m⟩
        · obtain ⟨b2, r2, h1, h2, h3⟩ := joinR_ok q2 d (by omega)
          exact ⟨b2, r2, h1, Nat.le_trans h2 (Nat.le_max_left ..), fun x m => List.mem_append_right _ (h3 x m)⟩
namespace T
variable {α β : Type}
def outs : T α → Option (Nat × List α)
  | .ret a => some (0, [a])
  | .ex _ => none
  | .fail => none
  | .draw u k => if 0 < u ∧ u < 1073741824 then (match joinR (fun d => (k d).outs) u with
    | some (n, l) => some (n + 1, l)
    | none => none) else none
theorem outs_ok {E : D → Nat → Prop} : ∀ {t : T α} {k : Nat} {l : List α}, t.outs = some (k, l) → ∀ n, n + k ≤ cap → t.wp n (fun a n' => a ∈ l ∧ n' ≤ n + k) E
  | .ret a, k, l, e, n, h => by
    unfold outs at e
    cases e
    exact ⟨List.mem_singleton.mpr rfl, Nat.le_refl _⟩
  | .ex _, _, _, e, _, _ => by cases e
  | .fail, _, _, e, _, _ => by cases e
  | .draw u k, j, l, e, n, h => by
    unfold outs at e
    by_cases hu : 0 < u ∧ u < 1073741824
    · rw [if_pos hu] at e
      cases q : joinR (fun d => (k d).outs) u with
      | none => rw [q] at e; cases e
      | some p =>
        obtain ⟨m, l2⟩ := p
        rw [q] at e
        cases e
        refine ⟨hu.1, hu.2, by omega, fun d hd => ?_⟩
        obtain ⟨b, r, h1, h2, h3⟩ := joinR_ok q d hd
        exact wp_mono (outs_ok h1 (n + 1) (by omega)) (fun a n' _ z => ⟨h3 a z.1, by have := z.2; omega⟩) (fun _ _ _ z => z)
    · rw [if_neg hu] at e; cases e
end T
def insF (x : Fl) (l : List Fl) : List Fl := if l.any (Fl.bq x) then l else x :: l
def uniF : List Fl → List Fl → List Fl
  | [], r => r
  | x :: l, r => insF x (uniF l r)
theorem insF_mem {x y : Fl} {l : List Fl} (h : y = x ∨ y ∈ l) : y ∈ insF x l := by
  unfold insF
  by_cases q : l.any (Fl.bq x) = true
  · rw [if_pos q]
    rcases h with h | h
    · obtain ⟨z, m, e⟩ := List.any_eq_true.mp q
      rw [h, Fl.bq_eq x z e]
      exact m
    · exact h
  · rw [if_neg q]
    rcases h with h | h
    · rw [h]; exact List.mem_cons_self ..
    · exact List.mem_cons_of_mem _ h
theorem uniF_mem {y : Fl} : ∀ {l r : List Fl}, y ∈ l ∨ y ∈ r → y ∈ uniF l r
  | [], r, h => h.elim (fun z => absurd z (by simp)) id
  | x :: l, r, h => by
    unfold uniF
    refine insF_mem ?_
    rcases h with h | h
    · rcases List.mem_cons.mp h with h | h
      · exact .inl h
      · exact .inr (uniF_mem (.inl h))
    · exact .inr (uniF_mem (.inr h))
/-- what is known of a statement's run -/
structure Outs (m : Env → T Fl) (f : Env → Option (Nat × List Fl)) : Prop where
  h : ∀ env k l, f env = some (k, l) → ∀ n, n + k ≤ T.cap → (m env).wp n (fun r n' => r ∈ l ∧ n' ≤ n + k) (fun _ _ => False)
def fLeaf (m : Env → T Fl) : Env → Option (Nat × List Fl) := fun env => match (m env).outs with
  | some (k, l) => some (k, uniF l [])
  | none => none
theorem outs_leaf (m : Env → T Fl) : Outs m (fLeaf m) := ⟨fun env k l e n h => by
  unfold fLeaf at e
  cases q : (m env).outs with
  | none => rw [q] at e; cases e
  | some p =>
    obtain ⟨k2, l2⟩ := p
    rw [q] at e
    cases e
    exact T.wp_mono (T.outs_ok q n h) (fun a n' _ z => ⟨uniF_mem (.inl z.1), z.2⟩) (fun _ _ _ z => z)⟩
def stp (f : Env → Option (Nat × List Fl)) : Fl → Option (Nat × List Fl)
  | .nx e => f e
  | x => some (0, [x])
def stM (m : Env → T Fl) : Fl → T Fl
  | .nx e => m e
  | r => .ret r
def joinL (f : Env → Option (Nat × List Fl)) : List Fl → Option (Nat × List Fl)
  | [] => some (0, [])
  | x :: r => match stp f x with
    | none => none
    | some (a, l) => match joinL f r with
      | none => none
      | some (b, s) => some (max a b, uniF l s)
theorem joinL_ok {m : Env → T Fl} {f : Env → Option (Nat × List Fl)} (hf : Outs m f) : ∀ {xs : List Fl} {k : Nat} {l : List Fl}, joinL f xs = some (k, l) → ∀ x ∈ xs, ∀ n, n + k ≤ T.cap → (stM m x).wp n (fun r n' => r ∈ l ∧ n' ≤ n + k) (fun _ _ => False)
  | [], _, _, _, x, m, _, _ => absurd m (by simp)
  | y :: ys, k, l, e, x, mem, n, h => by
    unfold joinL at e
    cases q : stp f y with
    | none => rw [q] at e; cases e
    | some p =>
      obtain ⟨a, l1⟩ := p
      rw [q] at e
      dsimp only at e
      cases q2 : joinL f ys with
      | none => rw [q2] at e; cases e
      | some p2 =>
        obtain ⟨b, l2⟩ := p2
        rw [q2] at e
        cases e
        have ha : a ≤ max a b := Nat.le_max_left ..
        have hb : b ≤ max a b := Nat.le_max_right ..
        rcases List.mem_cons.mp mem with rfl | mem
        · cases x with
          | nx e => exact T.wp_mono (hf.h e a l1 q n (by omega)) (fun r n' _ z => ⟨uniF_mem (.inl z.1), by have := z.2; omega⟩) (fun _ _ _ z => z)
          | rt d => cases q; exact ⟨uniF_mem (.inl (List.mem_singleton.mpr rfl)), by omega⟩
          | ro d => cases q; exact ⟨uniF_mem (.inl (List.mem_singleton.mpr rfl)), by omega⟩
          | bk d => cases q; exact ⟨uniF_mem (.inl (List.mem_singleton.mpr rfl)), by omega⟩
          | ct d => cases q; exact ⟨uniF_mem (.inl (List.mem_singleton.mpr rfl)), by omega⟩
          | ex d d2 => cases q; exact ⟨uniF_mem (.inl (List.mem_singleton.mpr rfl)), by omega⟩
        · exact T.wp_mono (joinL_ok hf q2 x mem n (by omega)) (fun r n' _ z => ⟨uniF_mem (.inr z.1), by have := z.2; omega⟩) (fun _ _ _ z => z)
def fSeq (f g : Env → Option (Nat × List Fl)) : Env → Option (Nat × List Fl) := fun env => match f env with
  | none => none
  | some (a, l) => match joinL g l with
    | none => none
    | some (b, r) => some (a + b, r)
theorem outs_seq {m k : Env → T Fl} {f g : Env → Option (Nat × List Fl)} (hf : Outs m f) (hg : Outs k g) : Outs (seqS m k) (fSeq f g) := ⟨fun env j l e n h => by
  unfold fSeq at e
  cases q : f env with
  | none => rw [q] at e; cases e
  | some p =>
    obtain ⟨a, l1⟩ := p
    rw [q] at e
    dsimp only at e
    cases q2 : joinL g l1 with
    | none => rw [q2] at e; cases e
    | some p2 =>
      obtain ⟨b, l2⟩ := p2
      rw [q2] at e
      cases e
      refine T.bind_wp (T.wp_mono (hf.h env a l1 q n (by omega)) (fun r n' _ z => ?_) (fun _ _ _ z => z))
      have := T.wp_mono (joinL_ok hg q2 r z.1 n' (by have := z.2; omega)) (fun r n2 _ (z2 : _ ∧ _) => (⟨z2.1, by have := z2.2; have := z.2; omega⟩ : r ∈ l ∧ n2 ≤ n + (a + b))) (fun _ _ _ z => z)
      cases r <;> exact this⟩
def fIf (t : Env → T Bool) (f g : Env → Option (Nat × List Fl)) : Env → Option (Nat × List Fl) := fun env => match (t env).outs with
  | none => none
  | some (a, l) => match (if l.all id then f env else if l.all (!·) then g env else (match f env, g env with
    | some (b, r), some (c, s) => some (max b c, uniF r s)
    | _, _ => none)) with
    | none => none
    | some (b, r) => some (a + b, r)
theorem outs_if {t : Env → T Bool} {m k : Env → T Fl} {f g : Env → Option (Nat × List Fl)} (hf : Outs m f) (hg : Outs k g) : Outs (ifS t m k) (fIf t f g) := ⟨fun env j l e n h => by
  unfold fIf at e
  cases q : (t env).outs with
  | none => rw [q] at e; cases e
  | some p =>
    obtain ⟨a, bs⟩ := p
    rw [q] at e
    dsimp only at e
    generalize q2 : (if bs.all id then f env else if bs.all (!·) then g env else (match f env, g env with
      | some (b, r), some (c, s) => some (max b c, uniF r s)
      | _, _ => none)) = o at e
    cases o with
    | none => cases e
    | some p2 =>
      obtain ⟨b, r⟩ := p2
      cases e
      refine T.bindX_wp (T.wp_mono (T.outs_ok (E := fun _ _ => False) q n (by omega)) (fun x n' _ z => ?_) (fun _ _ _ z => z.elim))
      have hn := z.2
      have key : (if x = true then m env else k env).wp n' (fun r' n2 => r' ∈ l ∧ n2 ≤ n' + b) (fun _ _ => False) := by
        by_cases h1 : bs.all id = true
        · rw [if_pos h1] at q2
          have hx : x = true := List.all_eq_true.mp h1 x z.1
          rw [if_pos hx]
          exact hf.h env b _ q2 n' (by omega)
        · rw [if_neg h1] at q2
          by_cases h2 : bs.all (!·) = true
          · rw [if_pos h2] at q2
            have hx : x = false := by simpa using List.all_eq_true.mp h2 x z.1
            rw [if_neg (by rw [hx]; decide)]
            exact hg.h env b _ q2 n' (by omega)
          · rw [if_neg h2] at q2
            cases q3 : f env with
            | none => rw [q3] at q2; cases q2
            | some p3 =>
              obtain ⟨b3, r3⟩ := p3
              cases q4 : g env with
              | none => rw [q3, q4] at q2; cases q2
              | some p4 =>
                obtain ⟨b4, r4⟩ := p4
                rw [q3, q4] at q2
                cases q2
                have ha : b3 ≤ max b3 b4 := Nat.le_max_left ..
                have hb : b4 ≤ max b3 b4 := Nat.le_max_right ..
                cases x with
                | true => exact T.wp_mono (hf.h env b3 r3 q3 n' (by omega)) (fun r n2 _ z => ⟨uniF_mem (.inl z.1), by have := z.2; omega⟩) (fun _ _ _ z => z)
                | false => exact T.wp_mono (hg.h env b4 r4 q4 n' (by omega)) (fun r n2 _ z => ⟨uniF_mem (.inr z.1), by have := z.2; omega⟩) (fun _ _ _ z => z)
      exact T.wp_mono key (fun r' n2 _ z2 => ⟨z2.1, by have := z2.2; omega⟩) (fun _ _ _ z => z)⟩
/-- a loop's turns, over all that may stand at its head: .nx goes on, .bk is through -/
def turn : Fl → Fl
  | .ct e => .nx e
  | .nx e => .nx e
  | .bk e => .bk e
  | r => r
def fin : Fl → Fl
  | .bk e => .nx e
  | r => r
def fPut (pt : Pt) (d : D) (f : Env → Option (Nat × List Fl)) : Env → Option (Nat × List Fl) := fun env => match putP pt d env with
  | none => none
  | some env' => match f env' with
    | none => none
    | some (k, l) => some (k, uniF (l.map turn) [])
def fFor (pt : Pt) (f : Env → Option (Nat × List Fl)) : List D → List Fl → Option (Nat × List Fl)
  | [], l => some (0, l.map fin)
  | d :: ds, l => match joinL (fPut pt d f) l with
    | none => none
    | some (a, l1) => match fFor pt f ds l1 with
      | none => none
      | some (b, l2) => some (a + b, l2)
/-- the rest of a loop, from what may stand at its head -/
def forR (pt : Pt) (m : Env → T Fl) (ds : List D) : Fl → T Fl
  | .nx e => forL pt m ds e
  | .bk e => .ret (.nx e)
  | r => .ret r
theorem T.bind_assoc {α β γ : Type} {f : α → T β} {g : β → T γ} : ∀ (t : T α), (t.bind f).bind g = t.bind fun a => (f a).bind g
  | .ret a => rfl
  | .ex e => rfl
  | .fail => rfl
  | .draw u k => by
    show T.draw u _ = T.draw u _
    congr 1
    funext d
    exact T.bind_assoc (k d)
def putS (pt : Pt) (d : D) (m : Env → T Fl) : Env → T Fl := fun env => match putP pt d env with
  | none => .fail
  | some env' => (m env').bind fun r => .ret (turn r)
theorem outs_put {pt : Pt} {d : D} {m : Env → T Fl} {f : Env → Option (Nat × List Fl)} (hf : Outs m f) : Outs (putS pt d m) (fPut pt d f) := ⟨fun env k l e n h => by
  unfold fPut at e
  unfold putS
  cases q : putP pt d env with
  | none => rw [q] at e; cases e
  | some env' =>
    rw [q] at e
    dsimp only at e ⊢
    cases q2 : f env' with
    | none => rw [q2] at e; cases e
    | some p =>
      obtain ⟨k2, l2⟩ := p
      rw [q2] at e
      cases e
      exact T.bind_wp (T.wp_mono (hf.h env' _ _ q2 n h) (fun r n' _ z => ⟨uniF_mem (.inl (List.mem_map_of_mem z.1)), z.2⟩) (fun _ _ _ z => z))⟩
theorem forL_cons {pt : Pt} {m : Env → T Fl} {d : D} {ds : List D} {env : Env} : forL pt m (d :: ds) env = (putS pt d m env).bind (forR pt m ds) := by
  unfold putS
  show (match putP pt d env with | none => T.fail | some env' => (m env').bind fun r => match r with
      | .nx env2 => forL pt m ds env2
      | .ct env2 => forL pt m ds env2
      | .bk env2 => .ret (.nx env2)
      | r => .ret r) = _
  cases putP pt d env with
  | none => rfl
  | some env' =>
    dsimp only
    rw [T.bind_assoc]
    congr 1
    funext r
    cases r <;> rfl
theorem fFor_ok {pt : Pt} {m : Env → T Fl} {f : Env → Option (Nat × List Fl)} (hf : Outs m f) : ∀ {ds : List D} {hs : List Fl} {k : Nat} {l : List Fl}, fFor pt f ds hs = some (k, l) → ∀ x ∈ hs, ∀ n, n + k ≤ T.cap → (forR pt m ds x).wp n (fun r n' => r ∈ l ∧ n' ≤ n + k) (fun _ _ => False)
  | [], hs, k, l, e, x, mem, n, h => by
    unfold fFor at e
    cases e
    have := List.mem_map_of_mem (f := fin) mem
    cases x <;> exact ⟨this, Nat.le_refl _⟩
  | d :: ds, hs, k, l, e, x, mem, n, h => by
    unfold fFor at e
    cases q : joinL (fPut pt d f) hs with
    | none => rw [q] at e; cases e
    | some p =>
      obtain ⟨a, l1⟩ := p
      rw [q] at e
      dsimp only at e
      cases q2 : fFor pt f ds l1 with
      | none => rw [q2] at e; cases e
      | some p2 =>
        obtain ⟨b, l2⟩ := p2
        rw [q2] at e
        cases e
        have h1 := joinL_ok (outs_put hf) q x mem n (by omega)
        have fin : ∀ r n', r ∈ l1 ∧ n' ≤ n + a → (forR pt m ds r).wp n' (fun r n2 => r ∈ l ∧ n2 ≤ n + (a + b)) (fun _ _ => False) := fun r n' z => T.wp_mono (fFor_ok hf q2 r z.1 n' (by have := z.2; omega)) (fun r n2 _ z2 => ⟨z2.1, by have := z2.2; have := z.2; omega⟩) (fun _ _ _ z => z)
        cases x with
        | nx env =>
          show (forL pt m (d :: ds) env).wp n _ _
          rw [forL_cons]
          exact T.bind_wp (T.wp_mono h1 (fun r n' _ z => fin r n' z) (fun _ _ _ z => z))
        | bk env => exact fin (.bk env) n h1
        | rt d => exact fin (.rt d) n h1
        | ro d => exact fin (.ro d) n h1
        | ct d => exact fin (.ct d) n h1
        | ex d d2 => exact fin (.ex d d2) n h1
def fFors (it : Env → T (List D)) (pt : Pt) (f : Env → Option (Nat × List Fl)) : Env → Option (Nat × List Fl) := fun env => match (it env).outs with
  | some (0, [ds]) => fFor pt f ds [.nx env]
  | _ => none
theorem outs_for {it : Env → T (List D)} {pt : Pt} {m : Env → T Fl} {f : Env → Option (Nat × List Fl)} (hf : Outs m f) : Outs (forS it pt m) (fFors it pt f) := ⟨fun env k l e n h => by
  unfold fFors at e
  split at e
  · rename_i ds q
    refine T.bindX_wp (T.wp_mono (T.outs_ok (E := fun _ _ => False) q n (by omega)) (fun x n' _ z => ?_) (fun _ _ _ z => z.elim))
    obtain ⟨z1, z2⟩ := z
    rw [List.mem_singleton.mp z1]
    have := fFor_ok hf e (.nx env) (List.mem_singleton.mpr rfl) n' (by omega)
    exact T.wp_mono this (fun r n2 _ z3 => ⟨z3.1, by have := z3.2; omega⟩) (fun _ _ _ z => z)
  · cases e⟩
def onlyTrue (o : Option (Nat × List Fl)) : Bool := match o with
  | some (k, l) => Nat.ble k T.cap && l.all fun r => Fl.bq r (.rt (.bl true))
  | none => false
theorem lawOk_of {nN i : Nat} {m : Env → T Fl} {f : Env → Option (Nat × List Fl)} (hf : Outs m f) (h : onlyTrue (f (lawE nN i)) = true) : lawOk nN i m := by
  unfold onlyTrue at h
  split at h
  · rename_i k l e
    obtain ⟨h1, h2⟩ := band h
    refine T.wp_mono (hf.h _ _ _ e 0 (by have := Nat.le_of_ble_eq_true h1; omega)) (fun r n' _ z => ?_) (fun _ _ _ z => z)
    rw [Fl.bq_eq _ _ (List.all_eq_true.mp h2 r z.1)]
    trivial
  · cases h
theorem lawOk_ex {nN i : Nat} {m : Env → T Fl} (h : ∃ f, Outs m f ∧ onlyTrue (f (lawE nN i)) = true) : lawOk nN i m := Exists.elim h fun f h => @lawOk_of nN i m f h.1 h.2
end Pu
set_option Elab.async false
set_option linter.all false
set_option maxRecDepth 100000
set_option maxHeartbeats 4000000
namespace Pu
open PySem L2 Stp NdefX LamX
open PyProof.Rows hiding St
/-! ### a, b, c = x, y, z -/
section
variable {G : GC}
theorem keepN {C1 C2 : Cf} {H1 H2 : Hp} {v : V} {o : O} {us1 : List Addr} (s : Step [] C1 H1 C2 H2) (r : OwnR G C1 H1 v o us1) (hu : ∀ a ∈ us1, ¬ C1.F a ∧ a ∉ C1.pa ∧ ∃ u, H1 a = some u ∧ noTbl u) :
    OwnR G C2 H2 v o us1 ∧ ∀ a ∈ us1, ¬ C2.F a ∧ a ∉ C2.pa ∧ ∃ u, H2 a = some u ∧ noTbl u := by
  have keep : ∀ a ∈ us1, ∀ u, H1 a = some u → H2 a = some u := fun a m u e => by
    obtain ⟨_, q2, u', e', t⟩ := hu a m
    rw [e] at e'
    cases e'
    exact s.kp a u e t (by simp) q2
  refine ⟨r.nx s.nx s.me keep, fun a m => ?_⟩
  obtain ⟨q1, q2, u, e, t⟩ := hu a m
  refine ⟨fun z => ?_, fun z => ?_, u, keep a m u e, t⟩
  · rcases s.fn a z with z | z | z
    · exact q1 z
    · cases z
    · rw [e] at z; cases z
  · rcases s.pf a z with z | z
    · exact q2 z
    · rw [e] at z; cases z
end
def parO3 (i j l : Nat) (m1 m2 m3 : Env → T O) : Env → T Fl := exS (fun env => (m1 env).bind fun a => (m2 env).bind fun b => (m3 env).bind fun c => .ret (a, b, c)) fun p env => .ret (.nx (((env.set i (some p.1)).set j (some p.2.1)).set l (some p.2.2)))
section
variable {X : Cx} {G : GC} {W : WX} {m1 m2 m3 : Env → T O} {a b c : Expr} {pos : Pos}
theorem st_par3O {i j l : Nat} {x y z : Str} {px py pz pt : Pos} {kt k2 pt2} (hc : X.calm = true) (hN : X.N.Nodup) (hi : X.N[i]? = some x) (hj : X.N[j]? = some y) (hl : X.N[l]? = some z) (hij : i ≠ j) (hil : i ≠ l) (hjl : j ≠ l)
    (hx : X.env.scope.names.lookup x = some .local) (hy : X.env.scope.names.lookup y = some .local) (hz : X.env.scope.names.lookup z = some .local) (h1 : PE X a (tN G W m1)) (h2 : PE X b (tN G W m2)) (h3 : PE X c (tN G W m3))
    (hw : swappedStores [.Tuple [.Name x px, .Name y py, .Name z pz] kt pt] (.Tuple [a, b, c] k2 pt2) X.env = pure (some [x, y, z]))
    (hs : swapsWithSole [.Tuple [.Name x px, .Name y py, .Name z pz] kt pt] (.Tuple [a, b, c] k2 pt2) pos.line X.env = pure false := by rfl)
    (hs1 : starEach [a, b, c] X.env = (false, eval a X.env) :: starEach [b, c] X.env := by rfl) (hs2 : starEach [b, c] X.env = (false, eval b X.env) :: starEach [c] X.env := by rfl) (hs3 : starEach [c] X.env = (false, eval c X.env) :: starEach [] X.env := by rfl) :
    PS X (.Assign [.Tuple [.Name x px, .Name y py, .Name z pz] kt pt] (.Tuple [a, b, c] k2 pt2) pos) (tS G W (parO3 i j l m1 m2 m3)) := by
  refine PS.imp (ps_par3 hc hN hi hj hl hij hil hjl hx hy hz (pa_cons h1 (pa_cons h2 (pa_cons h3 pa_nil hs3) hs2) hs1) hw hs) fun E σ H h => ?_
  obtain ⟨C, n, env, us, h⟩ := h
  refine ⟨C, n, env, us, h.ok, T.wp_mono (T.wp_bind (T.wp_bindX h.wp)) ?_ ?_⟩
  · intro o1 n1 _ z C1 H1 v1 s1 w1 r1
    have k1 := h.ok.q s1 w1
    refine ⟨C1, n1, env, us, k1, T.wp_mono (T.wp_bind z) ?_ ?_⟩
    · intro o2 n2 _ z2 C2 H2 v2 s2 w2 r2
      have k2 := k1.q s2 w2
      refine ⟨C2, n2, env, us, k2, T.wp_mono (T.wp_bind z2) ?_ ?_⟩
      · intro o3 n3 _ z3 C3 H3 v3 s3 w3 r3
        have k3 := k2.q s3 w3
        obtain ⟨us1, ro1, nd1, hu1⟩ := r1
        obtain ⟨us2, ro2, nd2, hu2⟩ := r2
        obtain ⟨us3, ro3, nd3, hu3⟩ := r3
        obtain ⟨p1, q1⟩ := keepN s2 ro1 fun a m => ⟨(hu1 a m).1, (hu1 a m).2.1, (hu1 a m).2.2.2⟩
        obtain ⟨p1, q1'⟩ := keepN s3 p1 q1
        obtain ⟨p2, q2⟩ := keepN s3 ro2 fun a m => ⟨(hu2 a m).1, (hu2 a m).2.1, (hu2 a m).2.2.2⟩
        have no1 : ∀ a ∈ us1, a ∉ us := fun a m z => by
          obtain ⟨_, _, u, e, _⟩ := h.ok.us a z
          rw [(hu1 a m).2.2.1] at e
          cases e
        obtain ⟨ua, ka, ha⟩ := k3.putO p1 nd1 (fun a m => ⟨(q1' a m).1, (q1' a m).2.1, no1 a m, (q1' a m).2.2⟩) i
        have no2 : ∀ a ∈ us2, a ∉ ua := fun a m z => by
          have e0 := (hu2 a m).2.2.1
          rcases ha a z with y | y
          · obtain ⟨_, _, _, u, e, _⟩ := hu1 a y
            rw [e0] at e; cases e
          · obtain ⟨_, _, u, e, _⟩ := k1.us a y
            rw [e0] at e; cases e
        obtain ⟨ub, kb, hb⟩ := ka.putO p2 nd2 (fun a m => ⟨(q2 a m).1, (q2 a m).2.1, no2 a m, (q2 a m).2.2⟩) j
        have no3 : ∀ a ∈ us3, a ∉ ub := fun a m z => by
          have e0 := (hu3 a m).2.2.1
          rcases hb a z with y | y
          · obtain ⟨_, _, _, u, e, _⟩ := hu2 a y
            rw [e0] at e; cases e
          · rcases ha a y with y | y
            · obtain ⟨_, _, u, e, _⟩ := q1 a y
              rw [e0] at e; cases e
            · obtain ⟨_, _, u, e, _⟩ := k2.us a y
              rw [e0] at e; cases e
        obtain ⟨uc, kc, hc'⟩ := kb.putO ro3 nd3 (fun a m => ⟨(hu3 a m).1, (hu3 a m).2.1, no3 a m, (hu3 a m).2.2.2⟩) l
        refine ⟨v1, v2, v3, rfl, ?_⟩
        refine z3 C3 H3 uc (((s1.trans s2 (by simp)).trans s3 (by simp)).up (by simp)) (fun a m => ?_) _ kc
        rcases hc' a m with y | y
        · exact .inr (s1.back (s2.back (hu3 a y).2.2.1))
        · rcases hb a y with y | y
          · exact .inr (s1.back (hu2 a y).2.2.1)
          · rcases ha a y with y | y
            · exact .inr (hu1 a y).2.2.1
            · exact .inl y
      · intro e3 n3 _ z3 C3 H3 cls dx s3 w3 rx
        exact z3 C3 H3 us (((s1.trans s2 (by simp)).trans s3 (by simp)).up (by simp)) (fun a m => .inl m) σ cls dx (k2.q s3 w3) rx
    · intro e2 n2 _ z2 C2 H2 cls dx s2 w2 rx
      exact z2 C2 H2 us ((s1.trans s2 (by simp)).up (by simp)) (fun a m => .inl m) σ cls dx (k1.q s2 w2) rx
  · intro e1 n1 _ z C1 H1 cls dx s1 w1 rx
    exact z C1 H1 us (s1.up (by simp)) (fun a m => .inl m) σ cls dx (h.ok.q s1 w1) rx
end
/-! ### a, b = x, y that is made as a tuple and taken apart (a name that a lambda or a comprehension looks at) -/
section
variable {X : Cx} {G : GC} {W : WX} {m1 m2 m3 : Env → T O} {a b c : Expr} {pos : Pos}
theorem st_tup2O {i j : Nat} {tx ty : Expr} {pt : Pos} {kt k2 pt2} (gx : PG X tx (gName i)) (gy : PG X ty (gName j)) (hc : X.calm = true) (h1 : PE X a (tN G W m1)) (h2 : PE X b (tN G W m2))
    (hs : swapsWithSole [.Tuple [tx, ty] kt pt] (.Tuple [a, b] k2 pt2) pos.line X.env = pure false := by rfl) (hw : swappedStores [.Tuple [tx, ty] kt pt] (.Tuple [a, b] k2 pt2) X.env = pure none := by rfl) (ht : (assignEach [.Tuple [tx, ty] kt pt] X.env).map (·.2) = [assign (.Tuple [tx, ty] kt pt) X.env] := by rfl)
    (hs1 : starEach [a, b] X.env = (false, eval a X.env) :: starEach [b] X.env := by rfl) (hs2 : starEach [b] X.env = (false, eval b X.env) :: starEach [] X.env := by rfl)
    (g1 : (assignEach [tx, ty] X.env).map (·.2) = assign tx X.env :: (assignEach [ty] X.env).map (·.2) := by rfl) (g2 : (assignEach [ty] X.env).map (·.2) = assign ty X.env :: (assignEach [] X.env).map (·.2) := by rfl)
    (hn : (assignEach [tx, ty] X.env).length = 2 := by rfl) (hst : (assignEach [tx, ty] X.env).findIdx? (·.1) = none := by rfl) :
    PS X (.Assign [.Tuple [tx, ty] kt pt] (.Tuple [a, b] k2 pt2) pos) (tS G W (parO i j m1 m2)) := by
  refine PS.imp (ps_asg (pe_tup (pa_cons h1 (pa_cons h2 pa_nil hs2) hs1)) (pg_tup hc (gn_cons gx (gn_cons gy gn_nil g2) g1) hn hst) hs hw ht) fun E σ H h => ?_
  obtain ⟨C, n, env, us, h⟩ := h
  refine ⟨C, n, env, us, h.ok, T.wp_mono (T.wp_bind (T.wp_bindX h.wp)) ?_ ?_⟩
  · intro o1 n1 _ z C1 H1 v1 s1 w1 r1
    have k1 := h.ok.q s1 w1
    refine ⟨C1, n1, env, us, k1, T.wp_mono (T.wp_bind z) ?_ ?_⟩
    · intro o2 n2 _ z2 C2 H2 v2 s2 w2 r2
      have k2 := k1.q s2 w2
      refine ⟨by show 2 ≤ sizeLine; rw [sizeLine_eq]; decide, fun p hp => ⟨p, [v1, v2], rfl, SqT.of upd_same, rfl, rfl, ?_⟩⟩
      have s3 := step_tup (C := C2) (o := .tup [v1, v2]) hp
      have w3 : Wf G C2 n2 (upd H2 p (.tup [v1, v2])) := w2.tup hp
      have k3 := k2.q s3 w3
      obtain ⟨us1, ro1, nd1, hu1⟩ := r1
      obtain ⟨us2, ro2, nd2, hu2⟩ := r2
      obtain ⟨p1, q1⟩ := keepN s2 ro1 fun a m => ⟨(hu1 a m).1, (hu1 a m).2.1, (hu1 a m).2.2.2⟩
      obtain ⟨p1, q1'⟩ := keepN s3 p1 q1
      obtain ⟨p2, q2⟩ := keepN s3 ro2 fun a m => ⟨(hu2 a m).1, (hu2 a m).2.1, (hu2 a m).2.2.2⟩
      have no1 : ∀ a ∈ us1, a ∉ us := fun a m z => by
        obtain ⟨_, _, u, e, _⟩ := h.ok.us a z
        rw [(hu1 a m).2.2.1] at e
        cases e
      obtain ⟨ua, ka, ha⟩ := k3.putO p1 nd1 (fun a m => ⟨(q1' a m).1, (q1' a m).2.1, no1 a m, (q1' a m).2.2⟩) i
      have no2 : ∀ a ∈ us2, a ∉ ua := fun a m z => by
        have e0 := (hu2 a m).2.2.1
        rcases ha a z with y | y
        · obtain ⟨_, _, _, u, e, _⟩ := hu1 a y
          rw [e0] at e; cases e
        · obtain ⟨_, _, u, e, _⟩ := k1.us a y
          rw [e0] at e; cases e
      obtain ⟨ub, kb, hb⟩ := ka.putO p2 nd2 (fun a m => ⟨(q2 a m).1, (q2 a m).2.1, no2 a m, (q2 a m).2.2⟩) j
      refine z2 C2 _ ub (((s1.trans s2 (by simp)).trans s3 (by simp)).up (by simp)) (fun a m => ?_) _ kb
      rcases hb a m with y | y
      · exact .inr (s1.back (hu2 a y).2.2.1)
      · rcases ha a y with y | y
        · exact .inr (hu1 a y).2.2.1
        · exact .inl y
    · intro e2 n2 _ z2 C2 H2 cls dx s2 w2 rx
      exact z2 C2 H2 us ((s1.trans s2 (by simp)).up (by simp)) (fun a m => .inl m) σ cls dx (k1.q s2 w2) rx
  · intro e1 n1 _ z C1 H1 cls dx s1 w1 rx
    exact z C1 H1 us (s1.up (by simp)) (fun a m => .inl m) σ cls dx (h.ok.q s1 w1) rx
theorem st_tup3O {i j l : Nat} {tx ty tz : Expr} {pt : Pos} {kt k2 pt2} (gx : PG X tx (gName i)) (gy : PG X ty (gName j)) (gz : PG X tz (gName l)) (hc : X.calm = true) (h1 : PE X a (tN G W m1)) (h2 : PE X b (tN G W m2)) (h3 : PE X c (tN G W m3))
    (hs : swapsWithSole [.Tuple [tx, ty, tz] kt pt] (.Tuple [a, b, c] k2 pt2) pos.line X.env = pure false := by rfl) (hw : swappedStores [.Tuple [tx, ty, tz] kt pt] (.Tuple [a, b, c] k2 pt2) X.env = pure none := by rfl) (ht : (assignEach [.Tuple [tx, ty, tz] kt pt] X.env).map (·.2) = [assign (.Tuple [tx, ty, tz] kt pt) X.env] := by rfl)
    (hs1 : starEach [a, b, c] X.env = (false, eval a X.env) :: starEach [b, c] X.env := by rfl) (hs2 : starEach [b, c] X.env = (false, eval b X.env) :: starEach [c] X.env := by rfl) (hs3 : starEach [c] X.env = (false, eval c X.env) :: starEach [] X.env := by rfl)
    (g1 : (assignEach [tx, ty, tz] X.env).map (·.2) = assign tx X.env :: (assignEach [ty, tz] X.env).map (·.2) := by rfl) (g2 : (assignEach [ty, tz] X.env).map (·.2) = assign ty X.env :: (assignEach [tz] X.env).map (·.2) := by rfl) (g3 : (assignEach [tz] X.env).map (·.2) = assign tz X.env :: (assignEach [] X.env).map (·.2) := by rfl)
    (hn : (assignEach [tx, ty, tz] X.env).length = 3 := by rfl) (hst : (assignEach [tx, ty, tz] X.env).findIdx? (·.1) = none := by rfl) :
    PS X (.Assign [.Tuple [tx, ty, tz] kt pt] (.Tuple [a, b, c] k2 pt2) pos) (tS G W (parO3 i j l m1 m2 m3)) := by
  refine PS.imp (ps_asg (pe_tup (pa_cons h1 (pa_cons h2 (pa_cons h3 pa_nil hs3) hs2) hs1)) (pg_tup hc (gn_cons gx (gn_cons gy (gn_cons gz gn_nil g3) g2) g1) hn hst) hs hw ht) fun E σ H h => ?_
  obtain ⟨C, n, env, us, h⟩ := h
  refine ⟨C, n, env, us, h.ok, T.wp_mono (T.wp_bind (T.wp_bindX h.wp)) ?_ ?_⟩
  · intro o1 n1 _ z C1 H1 v1 s1 w1 r1
    have k1 := h.ok.q s1 w1
    refine ⟨C1, n1, env, us, k1, T.wp_mono (T.wp_bind z) ?_ ?_⟩
    · intro o2 n2 _ z2 C2 H2 v2 s2 w2 r2
      have k2 := k1.q s2 w2
      refine ⟨C2, n2, env, us, k2, T.wp_mono (T.wp_bind z2) ?_ ?_⟩
      · intro o3 n3 _ z3 C3 H3 v3 s3 w3 r3
        have k3 := k2.q s3 w3
        refine ⟨by show 3 ≤ sizeLine; rw [sizeLine_eq]; decide, fun p hp => ⟨p, [v1, v2, v3], rfl, SqT.of upd_same, rfl, rfl, ?_⟩⟩
        have s4 := step_tup (C := C3) (o := .tup [v1, v2, v3]) hp
        have w4 : Wf G C3 n3 (upd H3 p (.tup [v1, v2, v3])) := w3.tup hp
        have k4 := k3.q s4 w4
        obtain ⟨us1, ro1, nd1, hu1⟩ := r1
        obtain ⟨us2, ro2, nd2, hu2⟩ := r2
        obtain ⟨us3, ro3, nd3, hu3⟩ := r3
        obtain ⟨p1, q1⟩ := keepN s2 ro1 fun a m => ⟨(hu1 a m).1, (hu1 a m).2.1, (hu1 a m).2.2.2⟩
        obtain ⟨p1, q1a⟩ := keepN s3 p1 q1
        obtain ⟨p1, q1b⟩ := keepN s4 p1 q1a
        obtain ⟨p2, q2⟩ := keepN s3 ro2 fun a m => ⟨(hu2 a m).1, (hu2 a m).2.1, (hu2 a m).2.2.2⟩
        obtain ⟨p2, q2b⟩ := keepN s4 p2 q2
        obtain ⟨p3, q3⟩ := keepN s4 ro3 fun a m => ⟨(hu3 a m).1, (hu3 a m).2.1, (hu3 a m).2.2.2⟩
        have no1 : ∀ a ∈ us1, a ∉ us := fun a m z => by
          obtain ⟨_, _, u, e, _⟩ := h.ok.us a z
          rw [(hu1 a m).2.2.1] at e
          cases e
        obtain ⟨ua, ka, ha⟩ := k4.putO p1 nd1 (fun a m => ⟨(q1b a m).1, (q1b a m).2.1, no1 a m, (q1b a m).2.2⟩) i
        have no2 : ∀ a ∈ us2, a ∉ ua := fun a m z => by
          have e0 := (hu2 a m).2.2.1
          rcases ha a z with y | y
          · obtain ⟨_, _, _, u, e, _⟩ := hu1 a y
            rw [e0] at e; cases e
          · obtain ⟨_, _, u, e, _⟩ := k1.us a y
            rw [e0] at e; cases e
        obtain ⟨ub, kb, hb⟩ := ka.putO p2 nd2 (fun a m => ⟨(q2b a m).1, (q2b a m).2.1, no2 a m, (q2b a m).2.2⟩) j
        have no3 : ∀ a ∈ us3, a ∉ ub := fun a m z => by
          have e0 := (hu3 a m).2.2.1
          rcases hb a z with y | y
          · obtain ⟨_, _, _, u, e, _⟩ := hu2 a y
            rw [e0] at e; cases e
          · rcases ha a y with y | y
            · obtain ⟨_, _, u, e, _⟩ := q1 a y
              rw [e0] at e; cases e
            · obtain ⟨_, _, u, e, _⟩ := k2.us a y
              rw [e0] at e; cases e
        obtain ⟨uc, kc, hc'⟩ := kb.putO p3 nd3 (fun a m => ⟨(q3 a m).1, (q3 a m).2.1, no3 a m, (q3 a m).2.2⟩) l
        refine z3 C3 _ uc ((((s1.trans s2 (by simp)).trans s3 (by simp)).trans s4 (by simp)).up (by simp)) (fun a m => ?_) _ kc
        rcases hc' a m with y | y
        · exact .inr (s1.back (s2.back (hu3 a y).2.2.1))
        · rcases hb a y with y | y
          · exact .inr (s1.back (hu2 a y).2.2.1)
          · rcases ha a y with y | y
            · exact .inr (hu1 a y).2.2.1
            · exact .inl y
      · intro e3 n3 _ z3 C3 H3 cls dx s3 w3 rx
        exact z3 C3 H3 us (((s1.trans s2 (by simp)).trans s3 (by simp)).up (by simp)) (fun a m => .inl m) σ cls dx (k2.q s3 w3) rx
    · intro e2 n2 _ z2 C2 H2 cls dx s2 w2 rx
      exact z2 C2 H2 us ((s1.trans s2 (by simp)).up (by simp)) (fun a m => .inl m) σ cls dx (k1.q s2 w2) rx
  · intro e1 n1 _ z C1 H1 cls dx s1 w1 rx
    exact z C1 H1 us (s1.up (by simp)) (fun a m => .inl m) σ cls dx (h.ok.q s1 w1) rx
end
theorem outs_frz {m : Env → T Fl} {f : Env → Option (Nat × List Fl)} (i : Nat) (hf : Outs m f) : Outs (fun env => m (frzE i env)) (fun env => f (frzE i env)) := ⟨fun env k l e n h => hf.h (frzE i env) k l e n h⟩
/-! ### own == -/
def eqB (tb : List (Nat × Str)) (x y : Str) (tys : List KT) (K : Fg) : Bool := He.eqO (PySem.W.findIn K (.ref (He.ga K x)) "__eq__") (some (some (.ref (mAd y "__eq__" K)))) && (PySem.W.isFn K (.ref (mAd y "__eq__" K)) && (He.eqO (PySem.W.findIn K (.ref (He.ga K x)) "__ne__") (some (some (.builtin "object.__ne__"))) &&
  (decide (PySem.W.subIn K (.ref (He.ga K x)) (.type "object") = some true) && tys.all fun t => match ktOf tb K t with
    | some tv => PySem.W.notFirst K (He.ga K x) tv
    | none => false)))
theorem eqB_ok {G : GC} {tb : List (Nat × Str)} {x y : Str} {tys : List KT} (hc : G.cA = cNames tb G.K) (h : eqB tb x y tys G.K = true) : EqC G (He.ga G.K x) (mAd y "__eq__" G.K) tys := by
  unfold eqB at h
  obtain ⟨h1, h⟩ := band h
  obtain ⟨h2, h⟩ := band h
  obtain ⟨h3, h⟩ := band h
  obtain ⟨h4, h5⟩ := band h
  refine ⟨He.eqO_ok h1, h2, He.eqO_ok h3, of_decide_eq_true h4, fun t m => ?_⟩
  have z := List.all_eq_true.mp h5 t m
  have ek : G.ktV t = ktOf tb G.K t := by
    cases t with
    | b n => rfl
    | c n =>
      show (G.cA n).map Value.ref = (cNames tb G.K n).map Value.ref
      rw [hc]
  split at z
  · rename_i tv e
    exact ⟨tv, by rw [ek]; exact e, z⟩
  · cases z
end Pu
set_option Elab.async false
set_option linter.all false
set_option maxRecDepth 100000
set_option maxHeartbeats 4000000
namespace Pu
open PySem L2 Stp NdefX LamX
open PyProof.Rows hiding St
/-! ### comprehensions whose list a name owns -/
def oComp (it : Env → T (List D)) (pt : Pt) (own : List Nat) (tt : Env → T Bool) (me : Env → T D) : Env → T O := fun env => (qCompR it pt own tt me env).bind fun r => .ret (.ls r)
section
variable {X : Cx} {G : GC} {W : WX} {me : Env → T D}
theorem compO_read {K : PySem.W.Frag} (hk : K = G.K) {it : Env → T (List D)} {pt : Pt} {own : List Nat} {tt : Env → T Bool} {me : Env → T D} {σ : St} {H : Hp} {Q : VK} (hown : ∀ j ∈ pt.slots, j ∈ own) (h : tN G W (oComp it pt own tt me) σ H Q) :
    tLc (tI G W it) (gP K pt) (tT G W0 tt) (tQ G W0 false me) own σ H Q := by
  obtain ⟨C, n, env, us, h⟩ := h
  refine comp_core (R := fun C' H' v ds => rN G H C' H' v (.ls ds)) hk hown (fun C1 H1 Ci ni Hi vs acc L s1 hL si hLi rl nfi npi wf => ⟨Ci, si, wf, [L], .ls hLi rl, by simp, fun a m => ?_⟩) (C := C) (n := n) (env := env) (us := us) ⟨h.ok, ?_⟩
  · rw [List.mem_singleton.mp m]
    exact ⟨nfi, npi, s1.back hL, _, hLi, fun _ z => nomatch z⟩
  · exact T.wp_mono (T.wp_bind h.wp) (fun r m _ z C' H' v s w rr => z C' H' v s w rr) (fun e m _ z => z)
theorem n_comp {it : Env → T (List D)} {pt : Pt} {tt : Env → T Bool} {me : Env → T D} {elt tg iter : Expr} {ifs : List Expr} {scope : Scope} {own : List (Str × Nat)} {pos : Pos} (hk : X.K = G.K) (hc : X.calm = true) (hN : X.N.Nodup) (hi : PI X tg iter (tI G W it)) (ok : BlkOk X.N X.env.scope scope own) (hown : ∀ j ∈ pt.slots, j ∈ own.map (·.2))
    (hg : ∀ (s : Shared) (H : Hp) (C : Addr) (cl : List (Str × Addr)) (fp : List Addr), PG (X.blk s H scope (compEnvC scope cl C X.env) fp) tg (gP X.K pt)) (ht : ∀ (s : Shared) (H : Hp) (C : Addr) (cl : List (Str × Addr)) (fp : List Addr), PTs (X.blk s H scope (compEnvC scope cl C X.env) fp) ifs (tT G W0 tt))
    (he : ∀ (s : Shared) (H : Hp) (C : Addr) (cl : List (Str × Addr)) (fp : List Addr), PE (X.blk s H scope (compEnvC scope cl C X.env) fp) elt (tQ G W0 false me)) (hs : ∀ x, foldedSetIterable iter X.env x = pure x := by intro _; rfl) :
    PE X (.ListComp elt [⟨tg, iter, ifs, 0⟩] scope pos) (tN G W (oComp it pt (own.map (·.2)) tt me)) := PE.imp (pe_lc hc hN hi ok hg ht he hs) fun σ H Q h => compO_read hk hown h
/-- x = [.. for ..], x a local name that owns the list -/
theorem st_asgOC {i : Nat} {y : Str} {py : Pos} {elt tg iter : Expr} {ifs : List Expr} {scope : Scope} {own : List (Str × Nat)} {cpos spos : Pos} {it : Env → T (List D)} {pt : Pt} {tt : Env → T Bool} (hk : X.K = G.K) (hc : X.calm = true) (hN : X.N.Nodup) (hy : X.N[i]? = some y) (hyl : X.env.scope.names.lookup y = some .local)
    (hsw : swapsWith (.ListComp elt [⟨tg, iter, ifs, 0⟩] scope cpos) (some (.Name y py)) spos.line X.env = pure true) (hi : PI X tg iter (tI G W it)) (ok : BlkOk X.N X.env.scope scope own) (hown : ∀ j ∈ pt.slots, j ∈ own.map (·.2))
    (hg : ∀ (s : Shared) (H : Hp) (C : Addr) (cl : List (Str × Addr)) (fp : List Addr), PG (X.blk s H scope (compEnvC scope cl C X.env) fp) tg (gP X.K pt)) (ht : ∀ (s : Shared) (H : Hp) (C : Addr) (cl : List (Str × Addr)) (fp : List Addr), PTs (X.blk s H scope (compEnvC scope cl C X.env) fp) ifs (tT G W0 tt))
    (he : ∀ (s : Shared) (H : Hp) (C : Addr) (cl : List (Str × Addr)) (fp : List Addr), PE (X.blk s H scope (compEnvC scope cl C X.env) fp) elt (tQ G W0 false me)) (hs : ∀ x, foldedSetIterable iter X.env x = pure x := by intro _; rfl) :
    PS X (.Assign [.Name y py] (.ListComp elt [⟨tg, iter, ifs, 0⟩] scope cpos) spos) (tS G W (asgO i (oComp it pt (own.map (·.2)) tt me))) := by
  refine PS.imp (ps_setLc hc hN hy hyl hsw hi ok hg ht he hs) fun E σ H h => compO_read hk hown ?_
  obtain ⟨C, n, env, us, h⟩ := h
  refine ⟨C, n, env, us, (h.exprW (R := rN G H)).imp ?_⟩
  rintro v H1 ⟨C1, n1, o, s1, r1, k1, w1⟩
  obtain ⟨us', k2, sb⟩ := own_new h.ok k1 r1 i
  exact w1 C1 H1 us' (s1.up (by simp)) sb _ k2
end
/-! ### l.count(x) -/
def rCountD (K : PySem.W.Frag) : V → List V → Hp → VK → Prop := fun x xs H Q => ∃ (a : Addr) (y : V) (d : PyData) (ds : List PyData), x = V.ref a ∧ xs = [y] ∧ Dp K H (V.ref a) (.list ds) ∧ Dp K H y d ∧
  SeqAt.shaped (.list ds) = true ∧ SeqAt.shaped d = true ∧ Q (.int ((ds.countP fun z => PyData.eqv z d : Nat) : Int)) H
theorem mt_countD {X : Cx} (hu : X.A.units + 65 < cLine) : MtR X "list.count" (rCountD X.K) := by
  intro pins s σ H x xs v us Q I rx rxs h
  obtain ⟨a, y, d, ds, rfl, rfl, hl, hy, sl, sd, q⟩ := h
  cases rx
  cases rxs with
  | cons ry rt =>
    rename_i uy ut
    cases rt
    obtain ⟨bs, r1⟩ := Dp.reads I d y uy hy ry
    have hxs : PyData.canLayAll0 ds = true := SeqAt.canLay_of_shaped sl
    have hroom : X.A.units + 1 + min (PyData.depthAll ds) d.depth < cLine := room_in_shaped sd hu
    cases hl with
    | lst hs ha =>
      obtain ⟨its, rv, ⟨⟨cls, dd, data, sls⟩, n, ho, hc, hdn, hdt⟩, hlen⟩ := I.list hs
      simp only at hc hdt
      subst hc hdt
      obtain ⟨as, h4⟩ := Dp.readsAll I ds _ its ha rv
      have hmap : its.map (SeqAt.readOf s.heap) = ds := SeqAt.readsAll_map ds its as hxs h4
      refine call_meets PySem.F.slot_list_count ⟨_, ho, rfl⟩ PySem.F.entry_list_count (PySem.F.args_list_count_2 _ _)
        (SeqAt.list_countAt a its.toArray n dd sls uy (fun u => PyData.eqv (SeqAt.readOf s.heap u) d)) ⟨ho, SeqAt.items_eqAt (vs := its.toArray) (show ReadsAll s.heap its.toArray.toList ds as from h4) r1 hxs (SeqAt.canLay_of_shaped sd) hroom, ?_⟩
      have ec : its.toArray.toList.countP (fun u => PyData.eqv (SeqAt.readOf s.heap u) d) = ds.countP fun z => PyData.eqv z d := by
        rw [← hmap, List.countP_map]
        rfl
      refine ⟨.int ((ds.countP fun z => PyData.eqv z d : Nat) : Int), H, I.tok _, ⟨s.toks, ?_⟩, q⟩
      show Value.int ((its.toArray.toList.countP (fun u => PyData.eqv (SeqAt.readOf s.heap u) d) : Nat) : Int) s.toks = Value.int ((ds.countP fun z => PyData.eqv z d : Nat) : Int) s.toks
      rw [ec]
def countD (x y : D) : T D := match x with
  | .lst xs => (match y.pd, D.pdL xs with
    | some a, some bs => grd (SeqAt.shaped a = true ∧ SeqAt.shaped (.list bs) = true) (.ret (.int ((bs.countP fun z => PyData.eqv z a : Nat) : Int)))
    | _, _ => .fail)
  | _ => .fail
def qCount (mo me : Env → T D) : Env → T D := fun env => (mo env).bind fun d => match d with
  | .lst xs => (me env).bind fun y => countD (.lst xs) y
  | _ => .fail
section
variable {X : Cx} {G : GC} {W : WX} {b : Bool} {o e : Expr} {mo me : Env → T D} {ap cp : Pos}
theorem s_count (hk : X.K = G.K) (hu : X.A.units + 65 < cLine) (ho : PE X o (tQ G W b mo)) (he : PE X e (tQ G W b me))
    (hbase : attributeBase o "count" X.env (eval o X.env) = eval o X.env := by rfl)
    (hfew : ((backTo cp (starEach [e] X.env)).all (fun x => !x.1) && (backToKw cp (keywordEach [] X.env)).all (fun x => x.1.isSome) && decide (([e] : List Expr).length + ([] : List Keyword).length + (if ([] : List Keyword).isEmpty then 0 else 1) < 30)) = true := by rfl)
    (hline : (ap.endLine == cp.line) = true := by rfl) (hs : starEach [e] X.env = (false, eval e X.env) :: starEach [] X.env := by rfl) (hplain : (backTo cp (starEach [] X.env)).any (·.1) = false := by rfl) :
    PE X (.Call (.Attribute o "count" ap) [e] [] cp) (tQ G W false (qCount mo me)) := by
  refine PE.imp (pe_bm PySem.F.plainAttrs_list PySem.F.slot_list_count PySem.F.type_list_count (mt_countD hu) ho (pa_cons he pa_nil hs) hbase hfew hline hs hplain) fun σ H Q h => ?_
  obtain ⟨C, n, env, us, h⟩ := h
  refine ⟨C, n, env, us, (h.bind (R := rV G b)).imp ?_⟩
  rintro v H1 ⟨C1, n1, d, s1, r1, h1⟩
  cases r1 <;> try exact h1.no.elim
  case lst p vs ds f hp l =>
    refine ⟨.inl ⟨rfl, vs, SqL.of hp⟩, C1, n1, env, us, (At.bind (R := rV G b) h1).imp ?_⟩
    rintro y H2 ⟨C2, n2, d2, s2, r2, h2⟩
    have h2 : At G W (rV G false) σ env us C2 n2 H2 (match d2.pd, D.pdL ds with
      | some a, some bs => grd (SeqAt.shaped a = true ∧ SeqAt.shaped (.list bs) = true) (.ret (.int ((bs.countP fun z => PyData.eqv z a : Nat) : Int)))
      | _, _ => .fail) Q := h2
    have rl : Rep G (C2.vw b) H2 (.ref p) (.lst ds) := (Rep.lst f hp l).nx (s2.vw b)
    cases q1 : d2.pd with
    | none => rw [q1] at h2; exact h2.no.elim
    | some a =>
      cases q2 : D.pdL ds with
      | none => rw [q1, q2] at h2; exact h2.no.elim
      | some bs =>
        rw [q1, q2] at h2
        obtain ⟨⟨sa, sb⟩, h2⟩ := h2.grd
        have el : (D.lst ds).pd = some (.list bs) := by show (D.pdL ds).map PyData.list = _; rw [q2]; rfl
        rw [hk]
        exact ⟨p, y, a, bs, rfl, rfl, rl.dp el, r2.dp q1, sb, sa, h2.ret (.int _)⟩
end
/-! ### list(range(..)) -/
def rgD (a b : Int) : List D := (List.range (b - a).toNat).map fun i => D.int (a + (i : Nat))
theorem rgV_rep {G : GC} {C : Cf} {H : Hp} (a b : Int) : RepL G C H (rgV a b) (rgD a b) := by
  unfold rgV rgD
  induction (List.range (b - a).toNat) with
  | nil => exact .nil
  | cons x l ih => exact .cons (.int _) ih
def lrg1 (m : Env → T D) : Env → T D := fun env => (m env).bind fun d => match d with
  | .int n => grd (0 ≤ n ∧ n ≤ 1000000) (.ret (.lst (rgD 0 n)))
  | _ => .fail
section
variable {X : Cx} {G : GC} {W : WX} {a : Expr} {ma : Env → T D} {p pos ip : Pos}
theorem s_listR1 (hc : X.calm = true) (hg : Gl X "list") (hm : X.mg "list" = none) (hg2 : Gl X "range") (hm2 : X.mg "range" = none) (ha : PE X a (tQ G W false ma)) (na : starEach [.Call (.Name "range" ip) [a] [] pos] X.env = (false, eval (.Call (.Name "range" ip) [a] [] pos) X.env) :: starEach [] X.env := by rfl)
    (na2 : starEach [a] X.env = (false, eval a X.env) :: starEach [] X.env := by rfl) {p2 : Pos} : PE X (.Call (.Name "list" p) [.Call (.Name "range" ip) [a] [] pos] [] p2) (tQ G W false (lrg1 ma)) := by
  refine PE.imp (pe_listRg hc hg hm (prg_1 hg2 hm2 ha na2) na) fun σ H Q h => ?_
  obtain ⟨C, n, env, us, h⟩ := h
  refine ⟨C, n, env, us, (h.bind (R := rV G false)).imp ?_⟩
  rintro v H1 ⟨C1, n1, d, s1, r1, h1⟩
  cases r1 <;> try exact h1.no.elim
  case int k =>
    obtain ⟨hl, h1⟩ := h1.grd
    exact ⟨k, rfl, RgOk.of_le (by omega) (by omega) (by omega) (by omega), fun q hq => h1.newL (rgV_rep 0 k) hq⟩
end
end Pu
set_option Elab.async false
set_option linter.all false
set_option maxRecDepth 100000
set_option maxHeartbeats 4000000
/-! two fors in a list comprehension -/
namespace Pu
open PySem L2 Stp NdefX LamX
open PyProof.Rows hiding St
def big2 : Nat := 4000
def compL2 (pt : Pt) (env : Env) (tt : Env → T Bool) (it1 : Env → T (List D)) (pt1 : Pt) (vs1 : List Nat) (tt1 : Env → T Bool) (me : Env → T D) : List D → T (List D)
  | [] => .ret []
  | d :: ds => match putP pt d env with
    | none => .fail
    | some env' => (tt env').noX.bind fun k => if k = true then (it1 env').noX.bind fun es => grd (es.length ≤ big2) ((compL pt1 (wipeE env' vs1) tt1 me es).bind fun r => (compL2 pt env tt it1 pt1 vs1 tt1 me ds).bind fun s => .ret (r ++ s)) else compL2 pt env tt it1 pt1 vs1 tt1 me ds
def qComp2 (it : Env → T (List D)) (pt : Pt) (own : List Nat) (tt : Env → T Bool) (it1 : Env → T (List D)) (pt1 : Pt) (vs1 : List Nat) (tt1 : Env → T Bool) (me : Env → T D) : Env → T D := fun env => (it env).bind fun ds => grd (ds.length ≤ big2) ((compL2 pt (wipeE env own) tt it1 pt1 vs1 tt1 me ds).bind fun r => .ret (.lst r))
section
variable {X : Cx} {G : GC} {W : WX}
theorem wipe_wipe : ∀ (vs : List Nat) (τ : St), wipe (wipe τ vs) vs = wipe τ vs := by
  intro vs
  induction vs with
  | nil => intro τ; rfl
  | cons v vs ih =>
    intro τ
    show (wipe ((wipe τ vs).set v none) vs).set v none = (wipe τ vs).set v none
    by_cases hv : v ∈ vs
    · rw [wipe_at _ v none hv, ih]
    · have q : ∀ (ws : List Nat) (τ : St), v ∉ ws → wipe (τ.set v none) ws = (wipe τ ws).set v none := by
        intro ws
        induction ws with
        | nil => intro τ _; rfl
        | cons w ws ih2 =>
          intro τ hw
          unfold wipe
          rw [ih2 τ (fun z => hw (List.mem_cons_of_mem _ z))]
          exact List.set_comm _ _ (fun z => hw (by rw [z]; exact List.mem_cons_self ..))
      rw [q vs _ hv, ih, List.set_set]
/-- what stands while a comprehension's list grows at L -/
structure Grow (G : GC) (C1 : Cf) (H1 : Hp) (σ : St) (env : Env) (us : List Addr) (L : Addr) (C : Cf) (n : Nat) (H : Hp) (vs : List V) (acc : List D) : Prop where
  st : Step [] C1 H1 C H
  at_ : H L = some (.lst vs)
  rl : RepL G C H vs acc
  ok : Ok G C n σ env us H
  nf : ¬ C.F L
  np : L ∉ C.pa
section
variable {C1 C C' : Cf} {H1 H H' : Hp} {σ : St} {env : Env} {us : List Addr} {L : Addr} {n n' : Nat} {vs : List V} {acc : List D}
theorem Grow.q (g : Grow G C1 H1 σ env us L C n H vs acc) (s : Step [] C H C' H') (w : Wf G C' n' H') : Grow G C1 H1 σ env us L C' n' H' vs acc := by
  refine ⟨g.st.trans s (by simp), s.kp L _ g.at_ (fun _ z => nomatch z) (by simp) g.np, g.rl.nx s.nx, g.ok.q s w, fun z => ?_, fun z => ?_⟩
  · rcases s.fn L z with z | z | z
    · exact g.nf z
    · cases z
    · rw [g.at_] at z; cases z
  · rcases s.pf L z with z | z
    · exact g.np z
    · rw [g.at_] at z; cases z
theorem Grow.more (g : Grow G C1 H1 σ env us L C n H vs acc) (hL : H1 L = none) (nu : L ∉ us) {v : V} {d : D} (r : Rep G C H v d) : Grow G C1 H1 σ env us L C n (upd H L (.lst (vs ++ [v]))) (vs ++ [v]) (acc ++ [d]) ∧ Nx C C H (upd H L (.lst (vs ++ [v]))) := by
  obtain ⟨nx, st⟩ := own_mut (o' := .lst (vs ++ [v])) hL g.st g.at_ g.nf (fun _ z => nomatch z) (fun _ _ z => nomatch z) (fun _ z => nomatch z)
  exact ⟨⟨st, upd_same, (g.rl.append (.cons r .nil)).nx nx, g.ok.mut nx nu g.at_ g.nf g.np (fun _ z => nomatch z) (fun _ z => nomatch z), g.nf, g.np⟩, nx⟩
end
theorem comp_inner {K : PySem.W.Frag} (hk : K = G.K) {pt1 : Pt} {vs1 : List Nat} {tt1 : Env → T Bool} {me : Env → T D} {σ σ2 : St} {env env2 : Env} {us us2 : List Addr} {C1 C4 : Cf} {H1 H4 : Hp} {L : Addr} {n4 : Nat} {vs0 : List V} {acc0 es : List D} {J1 : It} {NX : Hp → Prop} {POST : List D → Nat → Prop} {EX : D → Nat → Prop} {b0 : Nat}
    (hown : ∀ j ∈ pt1.slots, j ∈ vs1) (hL : H1 L = none) (nu : L ∉ us) (g : Grow G C1 H1 σ env us L C4 n4 H4 vs0 acc0) (k2 : Ok G C4 n4 σ2 env2 us2 H4) (nu2 : L ∉ us2) (y1 : Ylds G C4 H4 J1 es) (hes : es.length ≤ big2) (h0 : acc0.length ≤ b0) (hb0 : b0 + big2 < sizeLine)
    (w : (compL pt1 (wipeE env2 vs1) tt1 me es).wp n4 (fun r m => POST (acc0 ++ r) m) EX)
    (hN : ∀ C n H vs acc, Grow G C1 H1 σ env us L C n H vs acc → acc.length ≤ b0 + es.length → POST acc n → NX H) :
    ∃ W1 : Nat → Nat → Hp → Prop, (∃ m, W1 0 m H4) ∧ ∀ j k H, W1 j k H →
      (J1.stop j H ∧ NX H) ∨ (J1.go j H ∧ ∃ Nx1 : Hp → Prop, (∀ H', Nx1 H' → ∃ k', k' < k ∧ W1 (j + 1) k' H') ∧ ∀ x H', J1.yld j H x H' → gP K pt1 x (wipe σ2 vs1) H' fun σ3 H5 => wipe σ3 vs1 = wipe σ2 vs1 ∧ tT G W0 tt1 σ3 H5 fun b H6 =>
        if b = true then tQ G W0 false me σ3 H6 fun y H7 => ∃ acc, H7 L = some (.lst acc) ∧ acc.length < sizeLine ∧ Nx1 (upd H7 L (.lst (acc ++ [y]))) else Nx1 H6) := by
  obtain ⟨us3, e3, sb3⟩ := k2.env.wipeL vs1
  have k3 := k2.sub e3 sb3
  have nu3 : L ∉ us3 := fun z => nu2 (sb3.subset z)
  refine ⟨fun j k H => k = es.length - j ∧ j ≤ es.length ∧ ∃ C n vs acc, Grow G C1 H1 σ env us L C n H vs acc ∧ Nx C4 C H4 H ∧ acc.length ≤ b0 + j ∧ Ok G C n (wipe σ2 vs1) (wipeE env2 vs1) us3 H ∧ (compL pt1 (wipeE env2 vs1) tt1 me (es.drop j)).wp n (fun r m => POST (acc ++ r) m) EX, ⟨es.length, by simp, Nat.zero_le _, C4, n4, vs0, acc0, g, Nx.refl C4 H4, h0, k3, by rw [List.drop_zero]; exact w⟩, ?_⟩
  rintro j k Hi ⟨rfl, hj, Ci, ni, vs, acc, gi, ni4, la, ki, wi⟩
  by_cases hlt : j < es.length
  · have ei : es[j]? = some es[j] := List.getElem?_eq_getElem hlt
    obtain ⟨go, yl⟩ := y1.go Ci Hi ni4 j _ ei
    refine .inr ⟨go, fun Hn => j < es.length ∧ ∃ C n vs acc, Grow G C1 H1 σ env us L C n Hn vs acc ∧ Nx C4 C H4 Hn ∧ acc.length ≤ b0 + (j + 1) ∧ Ok G C n (wipe σ2 vs1) (wipeE env2 vs1) us3 Hn ∧ (compL pt1 (wipeE env2 vs1) tt1 me (es.drop (j + 1))).wp n (fun r m => POST (acc ++ r) m) EX,
      fun H' p => ⟨es.length - (j + 1), by omega, rfl, p.1, p.2⟩, fun x H' y => ?_⟩
    obtain ⟨sy, wy, ry⟩ := yl x H' y
    have gy := gi.q sy (wy _ gi.ok.wf)
    have ky := ki.q sy (wy _ ki.wf)
    have ny := ni4.trans sy.nx
    rw [List.drop_eq_getElem_cons hlt] at wi
    unfold compL at wi
    cases ep : putP pt1 es[j] (wipeE env2 vs1) with
    | none => rw [ep] at wi; exact False.elim wi
    | some env' =>
      rw [ep] at wi
      refine gP_ok hk ky ry ep fun σ' us' ok' sub' wp' => ⟨?_, Ci, ni, env', us', ok', ?_⟩
      · rw [wp' vs1 hown]
        exact wipe_wipe vs1 σ2
      refine T.wp_mono (T.wp_noX (E' := fun _ _ => False) (T.wp_bind wi)) (fun k nk _ wk Ck Hk bk sk wfk rk => ?_) (fun _ _ _ z => False.elim z)
      have rk : bk = k := rk
      subst rk
      have gk := gy.q sk wfk
      have kk := ky.q sk wfk
      have nk4 := ny.trans sk.nx
      cases bk with
      | false => exact iteF ⟨hlt, Ck, nk, vs, acc, gk, nk4, by omega, kk, wk⟩
      | true =>
        have ok'k := ok'.q sk wfk
        refine iteT ⟨Ck, nk, env', us', ok'k, ?_⟩
        refine T.wp_mono (T.wp_noX (E' := fun _ _ => False) (T.wp_bind wk)) (fun d ne _ we Ce He v se wfe re => ?_) (fun _ _ _ z => False.elim z)
        have ge := gk.q se wfe
        have ke := kk.q se wfe
        obtain ⟨gm, nm⟩ := ge.more hL nu re.unview
        refine ⟨vs, ge.at_, ?_, hlt, Ce, ne, vs ++ [v], acc ++ [d], gm, (nk4.trans se.nx).trans nm, ?_, ke.mut nm nu3 ge.at_ ge.nf ge.np (fun _ z => nomatch z) (fun _ z => nomatch z), ?_⟩
        · rw [ge.rl.length]
          exact Nat.lt_of_le_of_lt (Nat.le_trans la (Nat.add_le_add_left (Nat.le_trans hj hes) _)) hb0
        · rw [List.length_append]
          exact Nat.succ_le_succ la
        · refine T.wp_mono (T.wp_bind we) (fun r m _ z => ?_) (fun e m _ z => z)
          have z : POST (acc ++ d :: r) m := z
          rw [show acc ++ d :: r = acc ++ [d] ++ r by simp] at z
          exact z
  · have e : j = es.length := by omega
    subst e
    refine .inl ⟨y1.stop Ci Hi ni4, ?_⟩
    rw [List.drop_length] at wi
    have wi : POST (acc ++ []) ni := wi
    rw [List.append_nil] at wi
    exact hN Ci ni Hi vs acc gi la wi
theorem comp2_read {K : PySem.W.Frag} (hk : K = G.K) {it : Env → T (List D)} {pt : Pt} {own : List Nat} {tt : Env → T Bool} {it1 : Env → T (List D)} {pt1 : Pt} {vs1 : List Nat} {tt1 : Env → T Bool} {me : Env → T D} {σ : St} {H : Hp} {Q : VK} (hown : ∀ j ∈ pt.slots, j ∈ own) (hown1 : ∀ j ∈ pt1.slots, j ∈ vs1)
    (h : tQ G W false (qComp2 it pt own tt it1 pt1 vs1 tt1 me) σ H Q) : tLc2 (tI G W it) (gP K pt) (tT G W0 tt) (tI G W0 it1) (gP K pt1) (tT G W0 tt1) (tQ G W0 false me) own vs1 σ H Q := by
  obtain ⟨C, n, env, us, h⟩ := h
  refine ⟨C, n, env, us, (h.bind (R := rJ G)).imp ?_⟩
  rintro J H1 ⟨C1, n1, ds, s1, y1, h1⟩ L hL
  obtain ⟨hlen, h1⟩ := h1.grd
  have nLu : L ∉ us := fun z => by
    obtain ⟨_, _, o, e, _⟩ := h1.ok.us L z
    rw [hL] at e
    cases e
  obtain ⟨us2, e2, sb2⟩ := h1.ok.env.wipeL own
  have ok2 := h1.ok.sub e2 sb2
  have nu2 : L ∉ us2 := fun z => nLu (sb2.subset z)
  have g0 : Grow G C1 H1 (wipe σ own) (wipeE env own) us2 L C1 n1 (upd H1 L (.lst [])) [] [] := by
    have nx := (step_tup (C := C1) (o := .lst []) hL).nx
    refine ⟨step_tup hL, upd_same, .nil, ⟨ok2.wf.tup hL, e2.nx nx rfl fun a m u e => same_new hL _ _ e, ok2.nd, fun a m => ?_⟩, fun z => ?_, h1.ok.wf.pne hL⟩
    · obtain ⟨q1, q2, u, q3, q4⟩ := ok2.us a m
      exact ⟨q1, q2, u, same_new hL _ _ q3, q4⟩
    · obtain ⟨⟨o, e, _⟩, _⟩ := h1.ok.wf.fz L z
      rw [hL] at e
      cases e
  refine ⟨fun i m Hi => m = ds.length - i ∧ i ≤ ds.length ∧ ∃ Ci ni vs acc, Grow G C1 H1 (wipe σ own) (wipeE env own) us2 L Ci ni Hi vs acc ∧ acc.length ≤ i * big2 ∧
    (compL2 pt (wipeE env own) tt it1 pt1 vs1 tt1 me (ds.drop i)).wp ni (fun r n' => ∀ C' H' v, Step [] C1 H1 C' H' → Wf G C' n' H' → Rep G (C'.vw false) H' v (.lst (acc ++ r)) → Q v H') (fun _ _ => True), ⟨ds.length, by simp, Nat.zero_le _, C1, n1, [], [], g0, Nat.zero_le _, ?_⟩, ?_⟩
  · rw [List.drop_zero]
    exact T.wp_mono (T.wp_bind h1.wp) (fun r m _ z C' H' v s w rr => z C' H' v s w rr) (fun _ _ _ _ => trivial)
  · rintro i m Hi ⟨rfl, hi, Ci, ni, vs, acc, gi, la, wi⟩
    by_cases hlt : i < ds.length
    · have ei : ds[i]? = some ds[i] := List.getElem?_eq_getElem hlt
      obtain ⟨go, yl⟩ := y1.go Ci Hi gi.st.nx i _ ei
      refine .inr ⟨go, fun Hn => i < ds.length ∧ ∃ Ci ni vs acc, Grow G C1 H1 (wipe σ own) (wipeE env own) us2 L Ci ni Hn vs acc ∧ acc.length ≤ (i + 1) * big2 ∧
        (compL2 pt (wipeE env own) tt it1 pt1 vs1 tt1 me (ds.drop (i + 1))).wp ni (fun r n' => ∀ C' H' v, Step [] C1 H1 C' H' → Wf G C' n' H' → Rep G (C'.vw false) H' v (.lst (acc ++ r)) → Q v H') (fun _ _ => True),
        fun H' p => ⟨ds.length - (i + 1), by omega, rfl, p.1, p.2⟩, fun x H' y => ?_⟩
      obtain ⟨sy, wy, ry⟩ := yl x H' y
      have gy := gi.q sy (wy _ gi.ok.wf)
      rw [List.drop_eq_getElem_cons hlt] at wi
      unfold compL2 at wi
      have hi1 : i * big2 + big2 = (i + 1) * big2 := (Nat.succ_mul i big2).symm
      cases ep : putP pt ds[i] (wipeE env own) with
      | none => rw [ep] at wi; exact False.elim wi
      | some env' =>
        rw [ep] at wi
        refine gP_ok hk gy.ok ry ep fun σ' us' ok' sub' wp' => ⟨?_, Ci, ni, env', us', ok', ?_⟩
        · rw [wp' own hown]
          exact wipe_wipe own σ
        have nu' : L ∉ us' := fun z => nu2 (sub' L z)
        refine T.wp_mono (T.wp_noX (E' := fun _ _ => False) (T.wp_bind wi)) (fun k nk _ wk Ck Hk bk sk wfk rk => ?_) (fun _ _ _ z => False.elim z)
        have rk : bk = k := rk
        subst rk
        have gk := gy.q sk wfk
        cases bk with
        | false => exact iteF ⟨hlt, Ck, nk, vs, acc, gk, by omega, wk⟩
        | true =>
          have ok'k := ok'.q sk wfk
          refine iteT ⟨Ck, nk, env', us', ok'k, ?_⟩
          refine T.wp_mono (T.wp_noX (E' := fun _ _ => False) (T.wp_bind wk)) (fun es ne _ we Ce He J1 se wfe yes => ?_) (fun _ _ _ z => False.elim z)
          have ge := gk.q se wfe
          have oke := ok'k.q se wfe
          obtain ⟨hes, we⟩ := grd_wp we
          refine comp_inner hk (EX := fun _ _ => True) (POST := fun a m => (compL2 pt (wipeE env own) tt it1 pt1 vs1 tt1 me (ds.drop (i + 1))).wp m (fun s n' => ∀ C' H' v, Step [] C1 H1 C' H' → Wf G C' n' H' → Rep G (C'.vw false) H' v (.lst (a ++ s)) → Q v H') (fun _ _ => True)) (b0 := i * big2) hown1 hL nu2 ge oke nu' yes hes la ?_ ?_ ?_
          · have : i * big2 ≤ big2 * big2 := Nat.mul_le_mul_right _ (Nat.le_trans hi hlen)
            exact Nat.lt_of_le_of_lt (Nat.add_le_add_right this _) (by rw [sizeLine_eq]; decide)
          · refine T.wp_mono (T.wp_bind we) (fun r m _ z => T.wp_mono (T.wp_bind z) (fun s n' _ y C' H' v st w rr => y C' H' v st w ?_) (fun _ _ _ z => trivial)) (fun _ _ _ _ => trivial)
            rw [← List.append_assoc]
            exact rr
          · intro C n H vs' acc' g' la' post
            exact ⟨hlt, C, n, vs', acc', g', by omega, post⟩
    · have e : i = ds.length := by omega
      subst e
      refine .inl ⟨y1.stop Ci Hi gi.st.nx, ?_⟩
      rw [List.drop_length] at wi
      have wi : ∀ C' H' v, Step [] C1 H1 C' H' → Wf G C' ni H' → Rep G (C'.vw false) H' v (.lst (acc ++ [])) → Q v H' := wi
      rw [List.append_nil] at wi
      obtain ⟨C', t1, t2, t3⟩ := frz_fin hL gi.st gi.at_ gi.rl gi.np gi.ok.wf
      exact wi C' Hi (.ref L) t1 t2 t3
theorem s_comp2 {it : Env → T (List D)} {pt pt1 : Pt} {tt tt1 : Env → T Bool} {it1 : Env → T (List D)} {me : Env → T D} {elt tg iter tg1 iter1 : Expr} {ifs ifs1 : List Expr} {scope : Scope} {own : List (Str × Nat)} {vs1 : List Nat} {pos : Pos} (hk : X.K = G.K) (hc : X.calm = true) (hN : X.N.Nodup) (hi : PI X tg iter (tI G W it)) (ok : BlkOk X.N X.env.scope scope own)
    (hown : ∀ j ∈ pt.slots, j ∈ own.map (·.2)) (hown1 : ∀ j ∈ pt1.slots, j ∈ vs1) (hv : ∀ i ∈ vs1, i ∈ own.map (·.2))
    (hg : ∀ (s : Shared) (H : Hp) (C : Addr) (cl : List (Str × Addr)) (fp : List Addr), PG (X.blk s H scope (compEnvC scope cl C X.env) fp) tg (gP X.K pt)) (ht : ∀ (s : Shared) (H : Hp) (C : Addr) (cl : List (Str × Addr)) (fp : List Addr), PTs (X.blk s H scope (compEnvC scope cl C X.env) fp) ifs (tT G W0 tt))
    (hi1 : ∀ (s : Shared) (H : Hp) (C : Addr) (cl : List (Str × Addr)) (fp : List Addr), PI (X.blk s H scope (compEnvC scope cl C X.env) fp) tg1 iter1 (tI G W0 it1))
    (hg1 : ∀ (s : Shared) (H : Hp) (C : Addr) (cl : List (Str × Addr)) (fp : List Addr), PG (X.blk s H scope (compEnvC scope cl C X.env) fp) tg1 (gP X.K pt1)) (ht1 : ∀ (s : Shared) (H : Hp) (C : Addr) (cl : List (Str × Addr)) (fp : List Addr), PTs (X.blk s H scope (compEnvC scope cl C X.env) fp) ifs1 (tT G W0 tt1))
    (he : ∀ (s : Shared) (H : Hp) (C : Addr) (cl : List (Str × Addr)) (fp : List Addr), PE (X.blk s H scope (compEnvC scope cl C X.env) fp) elt (tQ G W0 false me)) (hs : ∀ x, foldedSetIterable iter X.env x = pure x := by intro _; rfl) (hs1 : ∀ env x, foldedSetIterable iter1 env x = pure x := by intro _ _; rfl) :
    PE X (.ListComp elt [⟨tg, iter, ifs, 0⟩, ⟨tg1, iter1, ifs1, 0⟩] scope pos) (tQ G W false (qComp2 it pt (own.map (·.2)) tt it1 pt1 vs1 tt1 me)) := PE.imp (pe_lc2 hc hN hi ok hv hg ht hi1 hg1 ht1 he hs hs1) fun σ H Q h => comp2_read hk hown hown1 h
end
end Pu
set_option Elab.async false
set_option linter.all false
set_option maxRecDepth 100000
set_option maxHeartbeats 4000000
/-! lists of lists of one's own -/
namespace Pu
open PySem L2 Stp NdefX LamX
open PyProof.Rows hiding St
def listO : D → T O
  | .lst xs => .ret (.ls xs)
  | .tup xs => .ret (.ls xs)
  | .wt xs => .ret (.ls xs)
  | _ => .fail
section
variable {X : Cx} {G : GC} {W : WX} {m : Env → T D} {e : Expr} {p pos : Pos}
/-- list(e), a new list -/
theorem n_list (hk : X.K = G.K) (hg : Gl X "list") (hm : X.mg "list" = none) (ha : PE X e (tQ G W false m)) (hs : starEach [e] X.env = (false, eval e X.env) :: starEach [] X.env := by rfl) (hpl : (backTo pos (starEach [] X.env)).any (·.1) = false := by rfl) :
    PE X (.Call (.Name "list" p) [e] [] pos) (tN G W fun env => (m env).bind listO) := by
  have hc := call_list_of (X := X)
  rw [hk] at hc
  refine PE.imp (pe_callTy hc hg hm (by decide +kernel) (pa_cons ha pa_nil hs) (by decide) (by decide) hs hpl) fun σ H Q h => ?_
  obtain ⟨C, n, env, us, h⟩ := h
  refine ⟨C, n, env, us, (h.bind (R := rV G false)).imp ?_⟩
  rintro v H1 ⟨C1, n1, d, s1, r1, h1⟩
  have r1 := r1.unview
  cases r1 <;> try exact h1.no.elim
  case lst p vs ds f hp l => exact ⟨p, vs, rfl, .inl (SqL.of hp), fun q hq => h1.retS (step_tup hq) (h1.ok.wf.tup hq) (rN_ls s1 h1.ok.wf hq l)⟩
  case tup p vs ds hp l => exact ⟨p, vs, rfl, .inr (SqT.of hp), fun q hq => h1.retS (step_tup hq) (h1.ok.wf.tup hq) (rN_ls s1 h1.ok.wf hq l)⟩
  case wt p vs ds hp l => exact ⟨p, vs, rfl, .inr (sqT_wt hp), fun q hq => h1.retS (step_tup hq) (h1.ok.wf.tup hq) (rN_ls s1 h1.ok.wf hq l)⟩
end
/-! ### [list(..) for ..] whose lists are one's own -/
def compLL (pt : Pt) (env : Env) (me : Env → T O) : List D → T (List (List D))
  | [] => .ret []
  | d :: ds => match putP pt d env with
    | none => .fail
    | some env' => (me env').noX.bind fun o => match o with
      | .ls y => (compLL pt env me ds).bind fun r => .ret (y :: r)
      | _ => .fail
def oCompLL (it : Env → T (List D)) (pt : Pt) (own : List Nat) (me : Env → T O) : Env → T O := fun env => (it env).bind fun ds => grd (ds.length ≤ big) ((compLL pt (wipeE env own) me ds).bind fun r => .ret (.ll r))
structure GrowLL (G : GC) (C1 : Cf) (H1 : Hp) (σ : St) (env : Env) (us : List Addr) (L : Addr) (C : Cf) (n : Nat) (H : Hp) (as : List Addr) (dss : List (List D)) : Prop where
  st : Step [] C1 H1 C H
  at_ : H L = some (.lst (as.map V.ref))
  ow : OwnL G C H as dss
  ok : Ok G C n σ env us H
  fr : ∀ a ∈ L :: as, ¬ C.F a ∧ a ∉ C.pa ∧ H1 a = none ∧ ∃ u, H a = some u ∧ noTbl u
  nd : (L :: as).Nodup
section
variable {G : GC} {C1 C C' : Cf} {H1 H H' : Hp} {σ : St} {env : Env} {us : List Addr} {L : Addr} {n n' : Nat} {as : List Addr} {dss : List (List D)}
theorem OwnL.len {as : List Addr} {dss : List (List D)} (o : OwnL G C H as dss) : as.length = dss.length := by
  induction o with
  | nil => rfl
  | cons _ _ _ ih => simp [ih]
theorem OwnL.snoc {a : Addr} {vs : List V} {ds : List D} (h : H a = some (.lst vs)) (r : RepL G C H vs ds) : ∀ {as : List Addr} {dss : List (List D)}, OwnL G C H as dss → OwnL G C H (as ++ [a]) (dss ++ [ds])
  | _, _, .nil => .cons h r .nil
  | _, _, .cons h' r' o => .cons h' r' (OwnL.snoc h r o)
theorem GrowLL.q (g : GrowLL G C1 H1 σ env us L C n H as dss) (s : Step [] C H C' H') (w : Wf G C' n' H') : GrowLL G C1 H1 σ env us L C' n' H' as dss := by
  have keep : ∀ a ∈ L :: as, ∀ u, H a = some u → H' a = some u := fun a m u e => by
    obtain ⟨_, q2, _, u', e', t⟩ := g.fr a m
    rw [e] at e'
    cases e'
    exact s.kp a u e t (by simp) q2
  refine ⟨g.st.trans s (by simp), keep L (List.mem_cons_self ..) _ g.at_, g.ow.nx s.nx fun a m => keep a (List.mem_cons_of_mem _ m), g.ok.q s w, fun a m => ?_, g.nd⟩
  obtain ⟨q1, q2, q3, u, e, t⟩ := g.fr a m
  refine ⟨fun z => ?_, fun z => ?_, q3, u, keep a m u e, t⟩
  · rcases s.fn a z with z | z | z
    · exact q1 z
    · cases z
    · rw [e] at z; cases z
  · rcases s.pf a z with z | z
    · exact q2 z
    · rw [e] at z; cases z
theorem GrowLL.more (g : GrowLL G C1 H1 σ env us L C n H as dss) (nu : L ∉ us) {a : Addr} {vs : List V} {ds : List D} (ha : H a = some (.lst vs)) (r : RepL G C H vs ds) (nf : ¬ C.F a) (np : a ∉ C.pa) (h1 : H1 a = none) (na : a ∉ L :: as) :
    GrowLL G C1 H1 σ env us L C n (upd H L (.lst (as.map V.ref ++ [.ref a]))) (as ++ [a]) (dss ++ [ds]) ∧ Nx C C H (upd H L (.lst (as.map V.ref ++ [.ref a]))) := by
  obtain ⟨f1, f2, f3, _⟩ := g.fr L (List.mem_cons_self ..)
  obtain ⟨nx, st⟩ := own_mut (o' := .lst (as.map V.ref ++ [.ref a])) f3 g.st g.at_ f1 (fun _ z => nomatch z) (fun _ _ z => nomatch z) (fun _ z => nomatch z)
  have nd := g.nd
  rw [List.nodup_cons] at nd
  have neL : ∀ b ∈ as ++ [a], b ≠ L := fun b m e => by
    rcases List.mem_append.mp m with m | m
    · exact nd.1 (by rw [← e]; exact m)
    · rw [List.mem_singleton.mp m] at e
      exact na (by rw [e]; exact List.mem_cons_self ..)
  refine ⟨⟨st, by rw [upd_same, List.map_append]; rfl, (OwnL.snoc ha r g.ow).nx nx fun b m u e => by rw [upd_ne (neL b m)]; exact e, g.ok.mut nx nu g.at_ f1 f2 (fun _ z => nomatch z) (fun _ z => nomatch z), fun b m => ?_, ?_⟩, nx⟩
  · rcases List.mem_cons.mp m with e | m
    · rw [e]
      exact ⟨f1, f2, f3, _, upd_same, fun _ z => nomatch z⟩
    · have hb := neL b m
      rcases List.mem_append.mp m with m | m
      · obtain ⟨q1, q2, q3, u, e, t⟩ := g.fr b (List.mem_cons_of_mem _ m)
        exact ⟨q1, q2, q3, u, by rw [upd_ne hb]; exact e, t⟩
      · rw [List.mem_singleton.mp m] at hb ⊢
        exact ⟨nf, np, h1, _, by rw [upd_ne hb]; exact ha, fun _ z => by cases z⟩
  · rw [List.nodup_cons]
    refine ⟨fun z => neL L z rfl, ?_⟩
    rw [List.nodup_append]
    exact ⟨nd.2, by simp, fun b hb c hc e => na (by rw [← List.mem_singleton.mp hc, ← e]; exact List.mem_cons_of_mem _ hb)⟩
end
section
variable {X : Cx} {G : GC} {W : WX}
theorem compLL_read {K : PySem.W.Frag} (hk : K = G.K) {it : Env → T (List D)} {pt : Pt} {own : List Nat} {me : Env → T O} {σ : St} {H : Hp} {Q : VK} (hown : ∀ j ∈ pt.slots, j ∈ own) (h : tN G W (oCompLL it pt own me) σ H Q) :
    tLc (tI G W it) (gP K pt) tYes (tN G W0 me) own σ H Q := by
  obtain ⟨C, n, env, us, h⟩ := h
  refine ⟨C, n, env, us, (h.bind (R := rJ G)).imp ?_⟩
  rintro J H1 ⟨C1, n1, ds, s1, y1, h1⟩ L hL
  obtain ⟨hlen, w1⟩ := grd_wp h1.wp
  have nLu : L ∉ us := fun z => by
    obtain ⟨_, _, o, e, _⟩ := h1.ok.us L z
    rw [hL] at e
    cases e
  obtain ⟨us2, e2, sb2⟩ := h1.ok.env.wipeL own
  have ok2 := h1.ok.sub e2 sb2
  have nu2 : L ∉ us2 := fun z => nLu (sb2.subset z)
  have g0 : GrowLL G C1 H1 (wipe σ own) (wipeE env own) us2 L C1 n1 (upd H1 L (.lst [])) [] [] := by
    have nx := (step_tup (C := C1) (o := .lst []) hL).nx
    refine ⟨step_tup hL, upd_same, .nil, ⟨ok2.wf.tup hL, e2.nx nx rfl fun a m u e => same_new hL _ _ e, ok2.nd, fun a m => ?_⟩, fun a m => ?_, by simp⟩
    · obtain ⟨q1, q2, u, q3, q4⟩ := ok2.us a m
      exact ⟨q1, q2, u, same_new hL _ _ q3, q4⟩
    · rw [List.mem_singleton.mp m]
      refine ⟨fun z => ?_, h1.ok.wf.pne hL, hL, _, upd_same, fun _ z => nomatch z⟩
      obtain ⟨⟨o, e, _⟩, _⟩ := h1.ok.wf.fz L z
      rw [hL] at e
      cases e
  refine ⟨fun i m Hi => m = ds.length - i ∧ i ≤ ds.length ∧ ∃ Ci ni as dss, GrowLL G C1 H1 (wipe σ own) (wipeE env own) us2 L Ci ni Hi as dss ∧ dss.length ≤ i ∧
    (compLL pt (wipeE env own) me (ds.drop i)).wp ni (fun r n' => ∀ C' H' v, Step [] C1 H1 C' H' → Wf G C' n' H' → rN G H1 C' H' v (.ll (dss ++ r)) → Q v H') (fun _ _ => True), ⟨ds.length, by simp, Nat.zero_le _, C1, n1, [], [], g0, Nat.zero_le _, ?_⟩, ?_⟩
  · rw [List.drop_zero]
    refine T.wp_mono (T.wp_bind w1) (fun r m _ z C' H' v s w rr => z C' H' v s w ?_) (fun _ _ _ _ => trivial)
    obtain ⟨us1, q1, q2, q3⟩ := rr
    exact ⟨us1, q1, q2, fun a m => ⟨(q3 a m).1, (q3 a m).2.1, s1.back (q3 a m).2.2.1, (q3 a m).2.2.2⟩⟩
  · rintro i m Hi ⟨rfl, hi, Ci, ni, as, dss, gi, la, wi⟩
    by_cases hlt : i < ds.length
    · have ei : ds[i]? = some ds[i] := List.getElem?_eq_getElem hlt
      obtain ⟨go, yl⟩ := y1.go Ci Hi gi.st.nx i _ ei
      refine .inr ⟨go, fun Hn => i < ds.length ∧ ∃ Ci ni as dss, GrowLL G C1 H1 (wipe σ own) (wipeE env own) us2 L Ci ni Hn as dss ∧ dss.length ≤ i + 1 ∧
        (compLL pt (wipeE env own) me (ds.drop (i + 1))).wp ni (fun r n' => ∀ C' H' v, Step [] C1 H1 C' H' → Wf G C' n' H' → rN G H1 C' H' v (.ll (dss ++ r)) → Q v H') (fun _ _ => True),
        fun H' p => ⟨ds.length - (i + 1), by omega, rfl, p.1, p.2⟩, fun x H' y => ?_⟩
      obtain ⟨sy, wy, ry⟩ := yl x H' y
      have gy := gi.q sy (wy _ gi.ok.wf)
      rw [List.drop_eq_getElem_cons hlt] at wi
      unfold compLL at wi
      cases ep : putP pt ds[i] (wipeE env own) with
      | none => rw [ep] at wi; exact False.elim wi
      | some env' =>
        rw [ep] at wi
        refine gP_ok hk gy.ok ry ep fun σ' us' ok' sub' wp' => ⟨?_, ?_⟩
        · rw [wp' own hown]
          exact wipe_wipe own σ
        unfold tYes
        dsimp only
        rw [if_pos rfl]
        refine ⟨Ci, ni, env', us', ok', T.wp_mono (T.wp_noX (E' := fun _ _ => False) (T.wp_bind wi)) (fun o ne _ we Ce He v se wfe re => ?_) (fun _ _ _ z => False.elim z)⟩
        have ge := gy.q se wfe
        cases o <;> try exact False.elim we
        case ls yd =>
          obtain ⟨us1, ro, nd1, fr1⟩ := re
          cases ro with
          | @ls a vs _ hp l =>
            obtain ⟨q1, q2, q3, _⟩ := fr1 a (List.mem_singleton.mpr rfl)
            have na : a ∉ L :: as := fun z => by
              obtain ⟨_, _, _, u, e, _⟩ := gy.fr a z
              rw [q3] at e
              cases e
            obtain ⟨gm, nm⟩ := ge.more nu2 hp l q1 q2 (gy.st.back q3) na
            refine ⟨as.map V.ref, ge.at_, ?_, hlt, Ce, ne, as ++ [a], dss ++ [yd], gm, ?_, ?_⟩
            · rw [List.length_map, ge.ow.len]
              exact Nat.lt_of_le_of_lt (Nat.le_trans la (Nat.le_trans hi hlen)) (by decide)
            · rw [List.length_append]
              exact Nat.succ_le_succ la
            · refine T.wp_mono (T.wp_bind we) (fun r m _ z C' H'' v' s w rr => z C' H'' v' s w ?_) (fun _ _ _ _ => trivial)
              have e : dss ++ yd :: r = dss ++ [yd] ++ r := by simp
              rw [e]
              exact rr
    · have e : i = ds.length := by omega
      subst e
      refine .inl ⟨y1.stop Ci Hi gi.st.nx, ?_⟩
      rw [List.drop_length] at wi
      have wi : ∀ C' H' v, Step [] C1 H1 C' H' → Wf G C' ni H' → rN G H1 C' H' v (.ll (dss ++ [])) → Q v H' := wi
      rw [List.append_nil] at wi
      exact wi Ci Hi (.ref L) gi.st gi.ok.wf ⟨L :: as, .ll gi.at_ gi.ow, gi.nd, gi.fr⟩
theorem n_compLL {it : Env → T (List D)} {pt : Pt} {me : Env → T O} {elt tg iter : Expr} {scope : Scope} {own : List (Str × Nat)} {pos : Pos} (hk : X.K = G.K) (hc : X.calm = true) (hN : X.N.Nodup) (hi : PI X tg iter (tI G W it)) (ok : BlkOk X.N X.env.scope scope own) (hown : ∀ j ∈ pt.slots, j ∈ own.map (·.2))
    (hg : ∀ (s : Shared) (H : Hp) (C : Addr) (cl : List (Str × Addr)) (fp : List Addr), PG (X.blk s H scope (compEnvC scope cl C X.env) fp) tg (gP X.K pt))
    (he : ∀ (s : Shared) (H : Hp) (C : Addr) (cl : List (Str × Addr)) (fp : List Addr), PE (X.blk s H scope (compEnvC scope cl C X.env) fp) elt (tN G W0 me)) (hs : ∀ x, foldedSetIterable iter X.env x = pure x := by intro _; rfl) :
    PE X (.ListComp elt [⟨tg, iter, [], 0⟩] scope pos) (tN G W (oCompLL it pt (own.map (·.2)) me)) := PE.imp (pe_lc hc hN hi ok hg (fun _ _ _ _ _ => pts_nil) he hs) fun σ H Q h => compLL_read hk hown h
end
/-! ### x[i][j] = e -/
section
variable {G : GC} {C : Cf} {n : Nat} {H : Hp} {σ : St} {env : Env} {us : List Addr} {i : Nat}
theorem EnvR.atS : ∀ {σ : St} {env : Env} {us : List Addr} {i : Nat} {o : O}, EnvR G C H σ env us → env[i]? = some (some o) → ∃ v us1, σ[i]? = some (some v) ∧ OwnR G C H v o us1 ∧ us1.Sublist us
  | _, _, _, _, _, .nil, e => by simp at e
  | _, _, _, 0, _, .skip _, e => by simp at e
  | _, _, _, i + 1, o, .skip r, e => by
    obtain ⟨v, us1, h1, h2, h3⟩ := EnvR.atS (i := i) (o := o) r (by simpa using e)
    exact ⟨v, us1, by simpa using h1, h2, h3⟩
  | _, _, _, 0, o, .has r _, e => by
    simp at e
    subst e
    exact ⟨_, _, rfl, r, List.sublist_append_left ..⟩
  | _, _, _, i + 1, o, .has (us1 := u1) (us := us) _ r, e => by
    obtain ⟨v, us1, h1, h2, h3⟩ := EnvR.atS (i := i) (o := o) r (by simpa using e)
    exact ⟨v, us1, by simpa using h1, h2, h3.trans (List.sublist_append_right u1 us)⟩
/-- what a slot owns: one of its objects is replaced -/
theorem Ok.mutP {o o' : O} {u u' : HO} {p : Addr} {v0 : V} (k : Ok G C n σ env us H) (f : σ[i]? = some (some v0)) (e : env[i]? = some (some o)) (mp : p ∈ us) (hp : H p = some u) (h1 : ∀ xs, u ≠ .tup xs) (h2 : ∀ x y, u ≠ .frz x y) (h3 : ∀ φ, u ≠ .ext φ) (t' : noTbl u')
    (h : Nx C C H (upd H p u') → ∀ us1, OwnR G C H v0 o us1 → p ∈ us1 ∧ OwnR G C (upd H p u') v0 o' us1) : Ok G C n σ (env.set i (some o')) us (upd H p u') ∧ Step us C H C (upd H p u') := by
  obtain ⟨nf, np, w, e1, t⟩ := k.us p mp
  rw [hp] at e1
  cases e1
  have ne : ∀ b w, H b = some w → w ≠ u → upd H p u' b = some w := fun b w h d => by
    rw [upd_ne (fun z => d (by rw [z, hp] at h; exact (Option.some.inj h).symm))]
    exact h
  have nx : Nx C C H (upd H p u') := ⟨fun b w f h _ => ⟨f, by rw [upd_ne (fun z => nf (by rw [← z]; exact f))]; exact h⟩, (fun b xs h => ne b _ h fun z => h1 xs z.symm), (fun b w x h => ne b _ h fun z => h2 w x z.symm), (fun b φ h => ne b _ h fun z => h3 φ z.symm), fun _ h => h⟩
  have kp : ∀ b, b ≠ p → ∀ w, H b = some w → upd H p u' b = some w := fun b hb w h => by rw [upd_ne hb]; exact h
  refine ⟨⟨k.wf.mut hp nf np t h3, EnvR.mutO nx kp k.env k.nd f e (h nx), k.nd, fun b m => ?_⟩, fun b w q _ nu _ => ?_, fun b w q => ?_, nx, fun b z => .inl z, fun b z => .inl z, rfl⟩
  · obtain ⟨q1, q2, w, q3, q4⟩ := k.us b m
    refine ⟨q1, q2, ?_⟩
    by_cases hb : b = p
    · rw [hb]
      exact ⟨u', upd_same, t'⟩
    · exact ⟨w, kp b hb w q3, q4⟩
  · exact kp b (fun z => nu (by rw [z]; exact mp)) w q
  · by_cases hb : b = p
    · rw [hb]
      exact ⟨u', upd_same⟩
    · exact ⟨w, kp b hb w q⟩
theorem OwnL.at_ : ∀ {as : List Addr} {dss : List (List D)} {j : Nat} {xs : List D}, OwnL G C H as dss → dss[j]? = some xs → ∃ a vs, as[j]? = some a ∧ H a = some (.lst vs) ∧ RepL G C H vs xs
  | _, _, _, _, .nil, e => by simp at e
  | _, _, 0, _, .cons h r _, e => by
    simp at e
    subst e
    exact ⟨_, _, rfl, h, r⟩
  | _, _, j + 1, xs, .cons _ _ o, e => by
    obtain ⟨a, vs, h1, h2⟩ := OwnL.at_ (j := j) (xs := xs) o (by simpa using e)
    exact ⟨a, vs, by simpa using h1, h2⟩
/-- one of the lists is replaced -/
theorem OwnL.put {p : Addr} {vs' : List V} {ys : List D} (nx : Nx C C H (upd H p (.lst vs'))) (r : RepL G C H vs' ys) : ∀ {as : List Addr} {dss : List (List D)} {j : Nat}, OwnL G C H as dss → as.Nodup → as[j]? = some p → OwnL G C (upd H p (.lst vs')) as (dss.set j ys)
  | _, _, _, .nil, _, e => by simp at e
  | _, _, 0, .cons h q o, nd, e => by
    simp at e
    subst e
    rw [List.nodup_cons] at nd
    exact .cons upd_same (r.nx nx) (o.nx nx fun b m u z => by rw [upd_ne (fun y => nd.1 (by rw [← y]; exact m))]; exact z)
  | _, _, j + 1, .cons (a := a) h q o, nd, e => by
    rw [List.nodup_cons] at nd
    have e' : _ := (by simpa using e : _)
    have m : p ∈ _ := List.mem_of_getElem? e'
    exact .cons (by rw [upd_ne (fun y => nd.1 (by rw [y]; exact m))]; exact h) (q.nx nx) (OwnL.put nx r (j := j) o nd.2 e')
theorem OwnR.ll_inj {a : Addr} {as bs : List Addr} {dss : List (List D)} {us1 : List Addr} (h : H a = some (.lst (as.map V.ref))) (q : OwnR G C H (.ref a) (.ll dss) us1) : us1 = a :: as ∧ OwnL G C H as dss := by
  cases q with
  | @ll _ cs _ hq oq =>
    rw [h] at hq
    have e : as.map V.ref = cs.map V.ref := by
      injection (Option.some.inj hq)
    have e2 : as = cs := by
      have inj : Function.Injective V.ref := fun x y z => by cases z; rfl
      exact (List.map_inj_right (fun x y z => by cases z; rfl)).mp e
    subst e2
    exact ⟨rfl, oq⟩
end
def ownLL (i : Nat) (env : Env) (k : List (List D) → T Fl) : T Fl := match env[i]? with
  | some (some (.ll xss)) => k xss
  | _ => .fail
def ixA (n : Nat) : D → T Nat
  | .int k => (match ixN n k with
    | some j => .ret j
    | none => .fail)
  | _ => .fail
def setLLS (i : Nat) (mi mj m : Env → T D) : Env → T Fl := fun env => ownLL i env fun xss => exS (fun env => (m env).bind fun d => (mi env).bind fun a => (ixA xss.length a).bind fun ja => (mj env).bind fun b => .ret (d, ja, b)) (fun p env => (ixA (xss.getD p.2.1 []).length p.2.2).bind fun jb => .ret (.nx (env.set i (some (.ll (xss.set p.2.1 ((xss.getD p.2.1 []).set jb p.1))))))) env
theorem ownLL_at {n : Nat} {i : Nat} {env : Env} {k : List (List D) → T Fl} {Q : Fl → Nat → Prop} {E : D → Nat → Prop} (h : (ownLL i env k).wp n Q E) : ∃ xs, env[i]? = some (some (.ll xs)) ∧ (k xs).wp n Q E := by
  unfold ownLL at h
  cases e : env[i]? with
  | none => rw [e] at h; exact False.elim h
  | some o =>
    rw [e] at h
    cases o with
    | none => exact False.elim h
    | some o => cases o <;> first | exact ⟨_, rfl, h⟩ | exact False.elim h
theorem ixA_wp {α : Type} {m : Nat} {d : D} {f : Nat → T α} {n : Nat} {Q : α → Nat → Prop} {E : D → Nat → Prop} (h : ((ixA m d).bind f).wp n Q E) : ∃ k j, d = .int k ∧ ixN m k = some j ∧ (f j).wp n Q E := by
  cases d <;> try exact False.elim h
  case int k =>
    unfold ixA at h
    cases e : ixN m k with
    | none => simp only [e] at h; exact False.elim h
    | some j => simp only [e] at h; exact ⟨k, j, rfl, e, h⟩
section
variable {X : Cx} {G : GC} {W : WX} {i : Nat} {me mi mj : Env → T D} {o e ei ej : Expr} {pos : Pos}
theorem st_setll {sp sp1 : Pos} (hk : X.K = G.K) (hv : PE X o (tVar i)) (hi : PE X ei (tQ G W false mi)) (he : PE X e (tQ G W false me))
    (hg : ∀ to, PE X (.Subscript o ei sp1) to → ∀ t, PSet X t → PG X (.Subscript (.Subscript o ei sp1) ej sp) (gSub to (tQ G W false mj) t)) (hpl : PlainIx ei := by exact fun _ _ => rfl)
    (hs : swapsWithSole [.Subscript (.Subscript o ei sp1) ej sp] e pos.line X.env = pure false := by rfl) (hw : swappedStores [.Subscript (.Subscript o ei sp1) ej sp] e X.env = pure none := by rfl) (h1 : (assignEach [.Subscript (.Subscript o ei sp1) ej sp] X.env).map (·.2) = [assign (.Subscript (.Subscript o ei sp1) ej sp) X.env] := by rfl) :
    PS X (.Assign [.Subscript (.Subscript o ei sp1) ej sp] e pos) (tS G W (setLLS i mi mj me)) := by
  refine PS.imp (ps_asg he (hg _ (pe_ix ix_list hv hi hpl) _ set_list) hs hw h1) fun E σ H h => ?_
  obtain ⟨C, n, env, us, h⟩ := h
  obtain ⟨xss, e1, w⟩ := ownLL_at h.wp
  obtain ⟨v0, us1, f0, ow, sl⟩ := h.ok.env.atS e1
  cases ow with
  | @ll L as _ hLs owl =>
    have ndu : (L :: as).Nodup := h.ok.nd.sublist sl
    have nd2 := ndu
    rw [List.nodup_cons] at nd2
    have mus : ∀ a ∈ L :: as, a ∈ us := fun a m => sl.subset m
    refine ⟨C, n, env, us, h.ok, T.wp_mono (T.wp_bind (T.wp_bindX w)) ?_ ?_⟩
    · intro d n1 _ z C1 H1 v s1 w1 r1
      have k1 := h.ok.q s1 w1
      refine ⟨.ref L, f0, C1, n1, env, us, k1, T.wp_mono (T.wp_bind z) ?_ ?_⟩
      · intro a n2 _ z2 C2 H2 u s2 w2 r2
        have k2 := k1.q s2 w2
        have s12 := s1.trans s2 (by simp)
        obtain ⟨ka, ja, rfl, eja, z2⟩ := ixA_wp z2
        have keep : ∀ b ∈ L :: as, ∀ x, H b = some x → H2 b = some x := fun b m x e => by
          obtain ⟨_, q2, x', e', t⟩ := h.ok.us b (mus b m)
          rw [e] at e'
          cases e'
          exact s12.kp b x e t (by simp) q2
        have hL2 := keep L (List.mem_cons_self ..) _ hLs
        have ow2 := owl.nx s12.nx fun b m => keep b (List.mem_cons_of_mem _ m)
        obtain ⟨_, hjl, _, _⟩ := ixN_seq eja
        have exs : xss[ja]? = some (xss.getD ja []) := by
          rw [List.getElem?_eq_getElem hjl, List.getD_eq_getElem?_getD, List.getElem?_eq_getElem hjl]
          rfl
        obtain ⟨p, vs, ep, hp, rl⟩ := ow2.at_ exs
        cases r2
        refine ⟨L, as.map V.ref, ka, .ref p, rfl, rfl, ?_, ?_, ?_⟩
        · exact SqL.of hL2
        · unfold atI
          rw [List.length_map, owl.len, eja]
          show (as.map V.ref)[ja]? = _
          rw [List.getElem?_map, ep]
          rfl
        refine ⟨C2, n2, env, us, k2, T.wp_mono (T.wp_bind z2) ?_ ?_⟩
        · intro b n3 _ z3 C3 H3 u3 s3 w3 r3
          have k3 := k2.q s3 w3
          obtain ⟨kb, jb, rfl, ejb, z3⟩ := ixA_wp z3
          have s123 := s12.trans s3 (by simp)
          have keep3 : ∀ b ∈ L :: as, ∀ x, H2 b = some x → H3 b = some x := fun b m x e => by
            obtain ⟨_, q2, x', e', t⟩ := k2.us b (mus b m)
            rw [e] at e'
            cases e'
            exact s3.kp b x e t (by simp) q2
          have mp : p ∈ as := List.mem_of_getElem? ep
          have hp3 := keep3 p (List.mem_cons_of_mem _ mp) _ hp
          have hL3 := keep3 L (List.mem_cons_self ..) _ hL2
          have ow3 := ow2.nx s3.nx fun b m => keep3 b (List.mem_cons_of_mem _ m)
          have rd : Rep G C3 H3 v d := (r1.unview.nx s2.nx).nx s3.nx
          cases r3
          have rl3 := (rl.nx s3.nx).set rd jb
          obtain ⟨k4, s4⟩ := k3.mutP (i := i) (u' := .lst (vs.set jb v)) (o' := .ll (xss.set ja ((xss.getD ja []).set jb d))) f0 e1 (mus p (List.mem_cons_of_mem _ mp)) hp3 (fun _ z => by cases z) (fun _ _ z => by cases z) (fun _ z => by cases z) (fun _ z => by cases z) fun nx us1 q => by
            obtain ⟨e2, oq⟩ := OwnR.ll_inj (bs := as) hL3 q
            rw [e2]
            refine ⟨List.mem_cons_of_mem _ mp, .ll (by rw [upd_ne (fun z => nd2.1 (by rw [z]; exact mp))]; exact hL3) (OwnL.put nx rl3 oq nd2.2 ep)⟩
          refine ⟨p, vs, kb, jb, rfl, rfl, hp3, by rw [rl.length]; exact ejb, ?_⟩
          exact z3 C3 _ us ((s123.up (by simp)).trans s4 fun x m => .inl m) (fun a m => .inl m) σ k4
        · intro e3 n3 _ z3 C3 H3 cls dx s3 w3 rx
          exact z3 C3 H3 us ((s12.trans s3 (by simp)).up (by simp)) (fun a m => .inl m) σ cls dx (k2.q s3 w3) rx
      · intro e2 n2 _ z2 C2 H2 cls dx s2 w2 rx
        exact z2 C2 H2 us ((s1.trans s2 (by simp)).up (by simp)) (fun a m => .inl m) σ cls dx (k1.q s2 w2) rx
    · intro e1 n1 _ z C1 H1 cls dx s1 w1 rx
      exact z C1 H1 us (s1.up (by simp)) (fun a m => .inl m) σ cls dx (h.ok.q s1 w1) rx
end
section
variable {X : Cx} {G : GC} {W : WX} {i : Nat} {me mi : Env → T D} {o e ei : Expr} {pos : Pos}
theorem st_setx {sp : Pos} (hk : X.K = G.K) (hv : PE X o (tVar i)) (hi : PE X ei (tQ G W false mi)) (he : PE X e (tQ G W false me))
    (hg : ∀ t, PSet X t → PG X (.Subscript o ei sp) (gSub (tVar i) (tQ G W false mi) t))
    (hs : swapsWithSole [.Subscript o ei sp] e pos.line X.env = pure false := by rfl) (hw : swappedStores [.Subscript o ei sp] e X.env = pure none := by rfl) (h1 : (assignEach [.Subscript o ei sp] X.env).map (·.2) = [assign (.Subscript o ei sp) X.env] := by rfl) :
    PS X (.Assign [.Subscript o ei sp] e pos) (tS G W (setS i mi me)) := st_setix hk hv hi he hg hs hw h1
end
section
variable {X : Cx} {G : GC} {W : WX} {a : Expr} {ma : Env → T D} {p pos ip p2 : Pos}
theorem s_listR (hc : X.calm = true) (hg : Gl X "list") (hm : X.mg "list" = none) (hg2 : Gl X "range") (hm2 : X.mg "range" = none) (ha : PE X a (tQ G W false ma)) (na : starEach [.Call (.Name "range" ip) [a] [] pos] X.env = (false, eval (.Call (.Name "range" ip) [a] [] pos) X.env) :: starEach [] X.env := by rfl)
    (na2 : starEach [a] X.env = (false, eval a X.env) :: starEach [] X.env := by rfl) : PE X (.Call (.Name "list" p) [.Call (.Name "range" ip) [a] [] pos] [] p2) (tQ G W false (lrg1 ma)) := s_listR1 hc hg hm hg2 hm2 ha na na2
end
end Pu
set_option Elab.async false
set_option linter.all false
set_option maxRecDepth 100000
set_option maxHeartbeats 4000000
/-! is True, is not False .. -/
namespace Pu
open PySem L2 Stp NdefX
open PyProof.Rows hiding St
def blIs : D → Bool → Bool
  | .bl c, b => c == b
  | _, _ => false
def isbD : D → D → T D
  | d, .bl b => .ret (.bl (blIs d b))
  | _, _ => .fail
def notbD : D → D → T D
  | d, .bl b => .ret (.bl (!blIs d b))
  | _, _ => .fail
def vIs : V → Bool → Bool
  | .bl c, b => c == b
  | _, _ => false
section
variable {X : Cx} {G : GC} {W : WX} {b b1 b2 : Bool} {ma mb : Env → T D} {a c : Expr} {pos : Pos}
theorem same_bl {M : Model} {A : Around} {E : Value → Shared → Prop} {s : Shared} {x : V} {u : Value} {k : Bool} {R : Bool → Shared → Prop} (r : RelV x u) (q : R (vIs x k) s) : wpAny M A (isSame u (.bool k)) R E s := by
  have eq_ : ∀ {u : Value}, plainIs u (.bool k) = true → (u == Value.bool k) = vIs x k → wpAny M A (isSame u (.bool k)) R E s := fun h1 h2 => wpAny_isSame_plain h1 (by rw [h2]; exact q)
  cases x with
  | ref a => cases r; exact eq_ rfl rfl
  | non => cases r; exact eq_ rfl rfl
  | bl b => cases r; exact eq_ rfl (by cases b <;> cases k <;> rfl)
  | int i => obtain ⟨t, rfl⟩ := r; exact eq_ rfl rfl
  | str x => obtain ⟨t, rfl⟩ := r; exact eq_ rfl rfl
  | byt x => obtain ⟨t, rfl⟩ := r; exact eq_ rfl rfl
  | flt x => obtain ⟨t, rfl⟩ := r; exact eq_ rfl rfl
  | ty n => cases r; exact eq_ rfl rfl
def rIsB (neg : Bool) : R2 := fun x y H Q => ∃ k, y = .bl k ∧ Q (.bl (if neg then !vIs x k else vIs x k)) H
theorem op_isB : OpR X (compareOp .Is) (rIsB false) := by
  intro pins s σ H x y v u Q I rx ry h
  obtain ⟨k, rfl, q⟩ := h
  cases ry
  show wpAny _ _ ((isSame v (Value.bool k)) >>= fun z => pure (Value.bool z)) _ _ s
  exact wpAny_bind (same_bl rx (wpAny_pure (fin_bl I q rfl)))
theorem op_notB : OpR X (compareOp .IsNot) (rIsB true) := by
  intro pins s σ H x y v u Q I rx ry h
  obtain ⟨k, rfl, q⟩ := h
  cases ry
  show wpAny _ _ ((isSame v (Value.bool k)) >>= fun z => pure (Value.bool (!z))) _ _ s
  exact wpAny_bind (same_bl rx (wpAny_pure (fin_bl I q rfl)))
theorem vIs_of {C : Cf} {H : Hp} {v : V} {d : D} {k : Bool} (r : Rep G C H v d) : vIs v k = blIs d k := by
  cases r <;> rfl
theorem isB_hf {σ : St} {env : Env} {us : List Addr} {C : Cf} {n : Nat} {H : Hp} {x y : V} {d e : D} {Q : VK} (r1 : Rep G (C.vw b1) H x d) (r2 : Rep G (C.vw b2) H y e) (h : At G W (rV G b) σ env us C n H (isbD d e) Q) : rIsB false x y H Q := by
  cases r2 <;> try exact h.no.elim
  rename_i k
  refine ⟨k, rfl, ?_⟩
  rw [vIs_of r1]
  exact h.ret (.bl _)
theorem notB_hf {σ : St} {env : Env} {us : List Addr} {C : Cf} {n : Nat} {H : Hp} {x y : V} {d e : D} {Q : VK} (r1 : Rep G (C.vw b1) H x d) (r2 : Rep G (C.vw b2) H y e) (h : At G W (rV G b) σ env us C n H (notbD d e) Q) : rIsB true x y H Q := by
  cases r2 <;> try exact h.no.elim
  rename_i k
  refine ⟨k, rfl, ?_⟩
  rw [vIs_of r1]
  exact h.ret (.bl _)
theorem s_isB (ha : PE X a (tQ G W b1 ma)) (hb : PE X c (tQ G W b2 mb)) : PE X (.Compare a [.Is] [c] pos) (tQ G W false (q2 isbD ma mb)) :=
  s_cmp op_isB (fun σ env us C n H x y d e Q r1 r2 h => isB_hf r1 r2 h) ha hb (nomark _)
theorem s_notB (ha : PE X a (tQ G W b1 ma)) (hb : PE X c (tQ G W b2 mb)) : PE X (.Compare a [.IsNot] [c] pos) (tQ G W false (q2 notbD ma mb)) :=
  s_cmp op_notB (fun σ env us C n H x y d e Q r1 r2 h => notB_hf r1 r2 h) ha hb (nomark _)
theorem t_isB (ha : PE X a (tQ G W b1 ma)) (hb : PE X c (tQ G W b2 mb)) : PT X (.Compare a [.Is] [c] pos) (tT G W (tb1 (q2 isbD ma mb) truB)) :=
  t_cmp op_isB (fun σ env us C n H x y d e Q r1 r2 h => isB_hf r1 r2 h) ha hb (nomark _)
theorem t_notB (ha : PE X a (tQ G W b1 ma)) (hb : PE X c (tQ G W b2 mb)) : PT X (.Compare a [.IsNot] [c] pos) (tT G W (tb1 (q2 notbD ma mb) truB)) :=
  t_cmp op_notB (fun σ env us C n H x y d e Q r1 r2 h => notB_hf r1 r2 h) ha hb (nomark _)
end
end Pu
set_option Elab.async false
set_option linter.all false
set_option maxRecDepth 100000
set_option maxHeartbeats 4000000
/-! a list of two lists, both one's own: [[..], [..]] -/
namespace Pu
open PySem L2 Stp NdefX LamX
open PyProof.Rows hiding St
def llOf : O → O → T O
  | .ls xs, .ls ys => .ret (.ll [xs, ys])
  | _, _ => .fail
def oLL2 (m1 m2 : Env → T O) : Env → T O := fun env => (m1 env).bind fun a => (m2 env).bind fun b => llOf a b
section
variable {X : Cx} {G : GC} {W : WX} {m1 m2 : Env → T O} {a b : Expr} {pos : Pos}
theorem n_ll2 (h1 : PE X a (tN G W m1)) (h2 : PE X b (tN G W m2)) (hs1 : starEach [a, b] X.env = (false, eval a X.env) :: starEach [b] X.env := by rfl) (hs2 : starEach [b] X.env = (false, eval b X.env) :: starEach [] X.env := by rfl) : PE X (.List [a, b] pos) (tN G W (oLL2 m1 m2)) := by
  refine PE.imp (pe_lst (pa_cons h1 (pa_cons h2 pa_nil hs2) hs1)) fun σ H Q k => ?_
  obtain ⟨C, n, env, us, k⟩ := k
  refine ⟨C, n, env, us, (k.bind (R := rN G H)).imp ?_⟩
  rintro v1 H1 ⟨C1, n1, o1, s1, r1, k1⟩
  refine ⟨C1, n1, env, us, (k1.bind (R := rN G H1)).imp ?_⟩
  rintro v2 H2 ⟨C2, n2, o2, s2, r2, k2⟩
  cases o1 <;> try exact k2.no.elim
  cases o2 <;> try exact k2.no.elim
  rename_i xs ys
  obtain ⟨us1, p1, nd1, hu1⟩ := r1
  obtain ⟨us2, p2, nd2, hu2⟩ := r2
  obtain ⟨q1, g1⟩ := keepN s2 p1 fun a m => ⟨(hu1 a m).1, (hu1 a m).2.1, (hu1 a m).2.2.2⟩
  refine ⟨by show 2 ≤ sizeLine; decide, fun p hp => ?_⟩
  cases q1 with
  | @ls a1 vs1 _ e1 rl1 =>
  cases p2 with
  | @ls a2 vs2 _ e2 rl2 =>
  have w := k2.ok.wf
  have f1 := hu1 a1 (by simp)
  have f2 := hu2 a2 (by simp)
  have g := g1 a1 (by simp)
  have i1 : upd H2 p (.lst [.ref a1, .ref a2]) a1 = some (.lst vs1) := by rw [upd_ne (ne_of_none e1 hp)]; exact e1
  have i2 : upd H2 p (.lst [.ref a1, .ref a2]) a2 = some (.lst vs2) := by rw [upd_ne (ne_of_none e2 hp)]; exact e2
  have np1 : p ≠ a1 := fun z => by rw [← z, hp] at e1; cases e1
  have np2 : p ≠ a2 := fun z => by rw [← z, hp] at e2; cases e2
  have n12 : a1 ≠ a2 := fun z => by
    obtain ⟨_, _, _, u, e, _⟩ := f1
    rw [z, f2.2.2.1] at e
    cases e
  have nx : Nx C2 C2 H2 (upd H2 p (.lst [.ref a1, .ref a2])) := (step_tup hp).nx
  refine k2.retS (step_tup hp) (w.tup hp) ⟨[p, a1, a2], .ll (as := [a1, a2]) upd_same (.cons i1 (rl1.nx nx) (.cons i2 (rl2.nx nx) .nil)), ?_, fun a m => ?_⟩
  · simp [np1, np2, n12]
  · simp only [List.mem_cons, List.not_mem_nil, or_false] at m
    rcases m with rfl | rfl | rfl
    · refine ⟨fun z => ?_, w.pne hp, s1.back (s2.back hp), _, upd_same, fun _ z => nomatch z⟩
      obtain ⟨⟨o, e, _⟩, _⟩ := w.fz _ z
      rw [hp] at e
      cases e
    · exact ⟨g.1, g.2.1, f1.2.2.1, _, i1, fun _ z => nomatch z⟩
    · exact ⟨f2.1, f2.2.1, s1.back f2.2.2.1, _, i2, fun _ z => nomatch z⟩
end
end Pu
set_option Elab.async false
set_option linter.all false
set_option maxRecDepth 100000
set_option maxHeartbeats 4000000
/-! results of one's own: a def that gives back a new thing -/
namespace Pu
open PySem L2 Stp NdefX LamX
open PyProof.Rows hiding St
/-- the promise of a def that gives back a new thing -/
def spN (G : GC) (np : Nat) (m : List D → T O) : Sp := fun vs H Q E => ∃ C n ds, Wf G C n H ∧ RepL G C H vs ds ∧ ds.length = np ∧
  (m ds).wp n (fun o n' => ∀ C' H' v, Step [] C H C' H' → Wf G C' n' H' → rN G H C' H' v o → Q v H') (fun e n' => ∀ C' H' cls dx, Step [] C H C' H' → Wf G C' n' H' → RepX G cls dx e → E cls dx H')
def endO : Fl → T O
  | .ro o => .ret o
  | .rt d => .ret (.fz d)
  | .nx _ => .ret (.fz .non)
  | .ex e _ => .ex e
  | _ => .fail
def runO (nN : Nat) (m : Env → T Fl) (ds : List D) : T O := (m (startE nN ds)).noX.bind endO
section
variable {G : GC} {C : Cf} {H : Hp}
theorem rN_fz {H0 : Hp} {v : V} {d : D} (r : Rep G C H v d) : rN G H0 C H v (.fz d) := ⟨[], .fz r, List.nodup_nil, fun a m => absurd m (by simp)⟩
theorem spN_read {N : List Str} {np : Nat} {m : Env → T Fl} {vs : List V} {Q : VK} {E : XK} (h : spN G np (runO N.length m) vs H Q E) : tS G (fun cls d _ H => E cls d H) m { nx := fun _ H' => Q .non H', rt := Q } (L2.start N vs) H := by
  obtain ⟨C, n, ds, wf, rl, hl, w⟩ := h
  have er : EnvR G C H (L2.start N vs) (startE N.length ds) [] := by
    unfold L2.start startE
    rw [rl.length]
    exact EnvR.start _ rl
  refine ⟨C, n, startE N.length ds, [], ⟨wf, er, List.nodup_nil, fun a m => absurd m (by simp)⟩, ?_⟩
  refine T.wp_mono (T.wp_noX (E' := fun _ _ => False) (T.wp_bind w)) (fun r n' _ z C' H' us' s hu => ?_) (fun e n' _ z => z)
  cases r with
  | nx env => exact fun σ ok => z C' H' .non s ok.wf (rN_fz .non)
  | rt d => exact fun v wf' rv => z C' H' v s wf' (rN_fz rv)
  | bk env => exact False.elim z
  | ct env => exact False.elim z
  | ex e env => exact fun σ cls dx ok rx => z C' H' cls dx s ok.wf rx
  | ro o => exact fun v wf' ro nd hv => z C' H' v s wf' ⟨us', ro, nd, fun a m => ⟨(hv a m).1, (hv a m).2.1, (hu a m).elim (fun z => absurd z (by simp)) id, (hv a m).2.2⟩⟩
end
section
variable {P : Program} {w : World} {K : PySem.W.Frag} {mg : Str → Option Value} {base : Heap} {G : GC}
theorem spN_len {np : Nat} {m : List D → T O} {vs : List V} {H : Hp} {Q : VK} {E : XK} (h : spN G np m vs H Q E) : vs.length = np := by
  obtain ⟨C, n, ds, wf, rl, hl, _⟩ := h
  rw [rl.length, hl]
theorem fnN_ok {x qual : Str} {st : Stmt} {f : Addr} {fd : FuncData} {N ps : List Str} {k : Nat} {m : Env → T Fl} (F : Fun K x qual st f fd) (S : FnScope N ps (defScope st))
    (hb : ∀ (cdv : Value) (A : Around) (outer : List PySem.Env) (s : Shared) (H : Hp) (E : XK), Room k (A.deeper (envOfC qual (defScope st) s.heap.objs.size f cdv)) →
      PSs (cxOf (L2.CX P w) P w K mg base N qual (defScope st) f cdv A outer s H E) (defBody st) (tS G (fun cls d _ H => E cls d H) m)) : FnOk P w K mg base (L2.CX P w) (k + 1) f fd ps (spN G ps.length (runO N.length m)) :=
  F.okX S (fun vs H Q E h => spN_len h) fun cdv A outer s H vs Q E hr h => ⟨_, hb cdv A outer s H E hr, spN_read h⟩
end
/-! giving back -/
/-- return x, a name of one's own -/
def retO (i : Nat) : Env → T Fl := fun env => match env[i]? with
  | some (some o) => .ret (.ro o)
  | _ => .fail
def retN (m : Env → T O) : Env → T Fl := exS m fun o _ => .ret (.ro o)
/-- f(..) that gives back a new thing -/
def qNO (f : List D → T O) (m : Env → T (List D)) : Env → T O := fun env => (m env).bind f
/-- return x, e: x an own list -/
def retT (i : Nat) (m : Env → T D) : Env → T Fl := fun env => match env[i]? with
  | some (some (.ls xs)) => exS m (fun d env => .ret (.ro (.tl 0 [.non, d] xs))) env
  | _ => .fail
/-- (a tuple of one's own)[k], the list -/
def tlAt (k : Nat) : O → T O
  | .tl j _ xs => if j = k then .ret (.ls xs) else .fail
  | _ => .fail
section
variable {X : Cx} {G : GC} {W : WX} {i k : Nat} {f : Addr} {fd : FuncData} {ps : List Str} {x : Str} {p pos : Pos} {e : Expr} {es : List Expr} {ma : Env → T (List D)} {mf : List D → T O} {mo : Env → T O} {me : Env → T D}
theorem st_retO (he : PE X e (tVar i)) : PS X (.Return (some e) pos) (tS G W (retO i)) := by
  refine PS.imp (ps_ret he) fun E σ H h => ?_
  obtain ⟨C, n, env, us, h⟩ := h
  unfold retO at h
  cases q : env[i]? with
  | none => rw [q] at h; exact h.no.elim
  | some oo =>
    cases oo with
    | none => rw [q] at h; exact h.no.elim
    | some o =>
      rw [q] at h
      obtain ⟨v, us1, h1, h2, h3⟩ := EnvR.atS h.ok.env q
      exact ⟨v, h1, h.ret (us' := us1) (Step.refl _ _ _) (fun a m => .inl (h3.subset m)) v h.ok.wf h2 (h.ok.nd.sublist h3) fun a m => h.ok.us a (h3.subset m)⟩
theorem st_retN (he : PE X e (tN G W mo)) : PS X (.Return (some e) pos) (tS G W (retN mo)) := by
  refine PS.imp (ps_ret he) fun E σ H h => ?_
  obtain ⟨C, n, env, us, h⟩ := h
  refine ⟨C, n, env, us, (h.exprW (R := rN G H)).imp ?_⟩
  rintro v H1 ⟨C1, n1, o, s1, ⟨us1, ro, nd, hv⟩, k1, h1⟩
  exact h1 C1 H1 us1 (s1.up (by simp)) (fun a m => .inr (hv a m).2.2.1) v k1.wf ro nd fun a m => ⟨(hv a m).1, (hv a m).2.1, (hv a m).2.2.2⟩
theorem call_readN {np : Nat} {σ : St} {H : Hp} {Q : VK} (h : tN G W (qNO (fun ds => grd (ds.length = np) (mf ds)) ma) σ H Q) : tCallS (spN G np mf) (WE W) (tA G W false ma) σ H Q := by
  obtain ⟨C, n, env, us, h⟩ := h
  refine ⟨C, n, env, us, (h.bind (R := rA G false)).imp ?_⟩
  rintro vs H1 ⟨C1, n1, ds, s1, r1, h1⟩
  obtain ⟨hl, h1⟩ := h1.grd
  refine ⟨C1, n1, ds, h1.ok.wf, r1.nx (Nx.unview _ _), hl, T.wp_mono h1.wp (fun o n' _ z C' H' v s w r => z C' H' v s w ?_) (fun e n' _ z C' H' cls dx s w r => z C' H' cls dx s w r)⟩
  obtain ⟨us1, ro, nd, hv⟩ := r
  exact ⟨us1, ro, nd, fun a m => ⟨(hv a m).1, (hv a m).2.1, s1.back (hv a m).2.2.1, (hv a m).2.2.2⟩⟩
theorem n_call (tk : Takes X W) (F : FnOk X.prog X.w X.K X.mg X.base (L2.CX X.prog X.w) k f fd ps (spN G ps.length mf)) (hr : Room k X.A) (hg : Gl X x) (hm : X.mg x = some (.ref f)) (hk : PySem.W.keepIn X.K (.ref f) = true) (hb : Binds X.K fd ps [])
    (ha : PA X (e :: es) (tA G W false ma)) (hdb : (x == ("__debug__" : Str)) = false := by decide) (he : starEach (e :: es) X.env = (false, eval e X.env) :: starEach es X.env := by rfl) (hpl : (backTo pos (starEach es X.env)).any (·.1) = false := by rfl) :
    PE X (.Call (.Name x p) (e :: es) [] pos) (tN G W (qNO (fun ds => grd (ds.length = ps.length) (mf ds)) ma)) := PE.imp (pe_callS F hr hg hm hk hb (fun σ => passAt tk σ) ha hdb he hpl) fun σ H Q h => call_readN h
theorem st_retT {e1 e2 : Expr} {x1} (h1 : PE X e1 (tVar i)) (h2 : PE X e2 (tQ G W false me))
    (hs1 : starEach [e1, e2] X.env = (false, eval e1 X.env) :: starEach [e2] X.env := by rfl) (hs2 : starEach [e2] X.env = (false, eval e2 X.env) :: starEach [] X.env := by rfl) : PS X (.Return (some (.Tuple [e1, e2] x1 p)) pos) (tS G W (retT i me)) := by
  refine PS.imp (ps_ret (pe_tup (pa_cons h1 (pa_cons h2 pa_nil hs2) hs1))) fun E σ H h => ?_
  obtain ⟨C, n, env, us, h⟩ := h
  unfold retT at h
  cases q : env[i]? with
  | none => rw [q] at h; exact h.no.elim
  | some oo =>
    cases oo with
    | none => rw [q] at h; exact h.no.elim
    | some o =>
      rw [q] at h
      cases o <;> try exact h.no.elim
      rename_i xs
      obtain ⟨v, us1, g1, g2, g3⟩ := EnvR.atS h.ok.env q
      refine ⟨v, g1, C, n, env, us, (h.expr (R := rV G false)).imp ?_⟩
      rintro v2 H1 ⟨C1, n1, d, s1, r1, h1⟩
      refine ⟨show (2 : Nat) ≤ sizeLine by decide, fun p hp => ?_⟩
      obtain ⟨v', us', g1', g2', g3'⟩ := EnvR.atS h1.ok.env q
      have ev : v' = v := by rw [g1] at g1'; exact (Option.some.inj (Option.some.inj g1')).symm
      subst ev
      cases g2' with
      | @ls b ws _ hb l =>
        have st := step_tup (o := .tup [V.ref b, v2]) (C := C1) hp
        have kp : ∀ a u, H1 a = some u → upd H1 p (.tup [V.ref b, v2]) a = some u := fun a u z => by rw [upd_ne (ne_of_none z hp)]; exact z
        refine h1.ret (us' := [b]) (st.up (by simp)) (fun a m => .inl (g3'.subset m)) (.ref p) (h1.ok.wf.tup hp) ?_ (h1.ok.nd.sublist g3') (fun a m => ?_)
        · refine .tl (k := 0) (vs := [V.ref b, v2]) upd_same rfl ?_ (kp _ _ hb) (l.nx st.nx)
          exact .cons .non (.cons ((r1.unview).nx st.nx) .nil)
        · obtain ⟨z1, z2, u, z3, z4⟩ := h1.ok.us a (g3'.subset m)
          exact ⟨z1, z2, u, kp _ _ z3, z4⟩
theorem n_ixT {a : Expr} {k j : Nat} {q : Pos} (ha : PE X a (tN G W mo)) (hs : PlainIx (.Constant (.int (k : Int)) j q) := by exact fun _ _ => rfl) : PE X (.Subscript a (.Constant (.int (k : Int)) j q) pos) (tN G W fun env => (mo env).bind (tlAt k)) := by
  refine PE.imp (pe_ix ix_seq ha pe_int hs) fun σ H Q h => ?_
  obtain ⟨C, n, env, us, h⟩ := h
  refine ⟨C, n, env, us, (h.bind (R := rN G H)).imp ?_⟩
  rintro v H1 ⟨C1, n1, o, s1, ⟨us1, ro, nd, hv⟩, h1⟩
  cases ro <;> try exact h1.no.elim
  rename_i p b j' vs ws ds xs hp e l hb rx
  replace h1 : At G W (rN G H) σ env us C1 n1 H1 (if j' = k then T.ret (O.ls xs) else .fail) Q := h1
  by_cases hj : j' = k
  · rw [if_pos hj] at h1
    subst hj
    exact .inr (.inl ⟨p, vs, (j' : Int), .ref b, rfl, rfl, SqT.of hp, L2.atI_nat e, h1.ret ⟨[b], .ls hb rx, nd, hv⟩⟩)
  · rw [if_neg hj] at h1
    exact h1.no.elim
end
end Pu
set_option Elab.async false
set_option linter.all false
set_option maxRecDepth 100000
set_option maxHeartbeats 4000000
/-! copies of lists that a name owns -/
namespace Pu
open PySem L2 Stp NdefX LamX
open PyProof.Rows hiding St
/-- x + e, x an own list: a new list -/
def addO (i : Nat) (m : Env → T D) : Env → T O := fun env => match env[i]? with
  | some (some (.ls xs)) => (m env).bind fun d => match d with
    | .lst ys => grd (xs.length + ys.length ≤ big) (.ret (.ls (xs ++ ys)))
    | _ => .fail
  | _ => .fail
/-- tuple(x), x an own list -/
def tupO (i : Nat) : Env → T D := fun env => match env[i]? with
  | some (some (.ls xs)) => .ret (.tup xs)
  | _ => .fail
/-- list(x), x an own list: a new list -/
def lstO (i : Nat) : Env → T O := fun env => match env[i]? with
  | some (some (.ls xs)) => .ret (.ls xs)
  | _ => .fail
section
variable {X : Cx} {G : GC} {W : WX} {i : Nat} {p pos : Pos} {e c : Expr} {me : Env → T D}
theorem own_at {α β : Type} {R : RR α β} {σ : St} {env : Env} {us : List Addr} {C : Cf} {n : Nat} {H : Hp} {k : List D → T α} {Q : β → Hp → Prop} (h : At G W R σ env us C n H (match env[i]? with | some (some (.ls xs)) => k xs | _ => .fail) Q) :
    ∃ xs b, env[i]? = some (some (.ls xs)) ∧ σ[i]? = some (some (V.ref b)) ∧ (∃ ws, H b = some (.lst ws) ∧ RepL G C H ws xs) ∧ b ∈ us ∧ At G W R σ env us C n H (k xs) Q := by
  cases q : env[i]? with
  | none => rw [q] at h; exact h.no.elim
  | some oo =>
    cases oo with
    | none => rw [q] at h; exact h.no.elim
    | some o =>
      rw [q] at h
      cases o <;> try exact h.no.elim
      rename_i xs
      obtain ⟨v, us1, g1, g2, g3⟩ := EnvR.atS h.ok.env q
      cases g2 with
      | @ls b ws _ hb l => exact ⟨xs, b, rfl, g1, ⟨ws, hb, l⟩, g3.subset (List.mem_singleton.mpr rfl), h⟩
theorem n_addO (hk : X.K = G.K) (h1 : PE X e (tVar i)) (h2 : PE X c (tQ G W false me)) : PE X (.BinOp e .Add c pos) (tN G W (addO i me)) := by
  refine PE.imp (pe_op op_cat h1 h2) fun σ H Q h => ?_
  obtain ⟨C, n, env, us, h⟩ := h
  obtain ⟨xs, b, q, g1, ⟨ws, hb, l⟩, mb, h⟩ := own_at h
  refine ⟨.ref b, g1, C, n, env, us, (h.bind (R := rV G false)).imp ?_⟩
  rintro v2 H1 ⟨C1, n1, d, s1, r1, h1⟩
  have r1 := r1.unview
  cases r1 <;> try exact h1.no.elim
  rename_i a2 us2 ys f2 ha2 l2
  obtain ⟨hl, h1⟩ := h1.grd
  have hb1 : H1 b = some (.lst ws) := s1.kp b _ hb (fun _ z => nomatch z) (by simp) (h.ok.us b mb).2.1
  refine ⟨b, a2, ws, us2, rfl, rfl, hb1, ha2, by rw [l.length, l2.length]; exact Nat.le_trans hl (by decide), fun p hp => ?_⟩
  exact h1.retS (step_tup hp) (h1.ok.wf.tup hp) (rN_ls s1 h1.ok.wf hp ((l.nx s1.nx).append l2))
theorem s_tupO (hk : X.K = G.K) (hg : Gl X "tuple") (hm : X.mg "tuple" = none) (h1 : PE X e (tVar i)) (hs : starEach [e] X.env = (false, eval e X.env) :: starEach [] X.env := by rfl) (hpl : (backTo pos (starEach [] X.env)).any (·.1) = false := by rfl) :
    PE X (.Call (.Name "tuple" p) [e] [] pos) (tQ G W false (tupO i)) := by
  have hc := call_tuple_of (X := X)
  refine PE.imp (pe_callTy hc hg hm (by decide +kernel) (pa_cons h1 pa_nil hs) (by decide) (by decide) hs hpl) fun σ H Q h => ?_
  obtain ⟨C, n, env, us, h⟩ := h
  obtain ⟨xs, b, q, g1, ⟨ws, hb, l⟩, mb, h⟩ := own_at h
  exact ⟨.ref b, g1, b, ws, rfl, .inl ⟨SqL.of hb, fun q hq => h.newT (l.nx (Nx.view _ false _)) id hq⟩⟩
theorem n_lstO (hk : X.K = G.K) (hg : Gl X "list") (hm : X.mg "list" = none) (h1 : PE X e (tVar i)) (hs : starEach [e] X.env = (false, eval e X.env) :: starEach [] X.env := by rfl) (hpl : (backTo pos (starEach [] X.env)).any (·.1) = false := by rfl) :
    PE X (.Call (.Name "list" p) [e] [] pos) (tN G W (lstO i)) := by
  have hc := call_list_of (X := X)
  refine PE.imp (pe_callTy hc hg hm (by decide +kernel) (pa_cons h1 pa_nil hs) (by decide) (by decide) hs hpl) fun σ H Q h => ?_
  obtain ⟨C, n, env, us, h⟩ := h
  obtain ⟨xs, b, q, g1, ⟨ws, hb, l⟩, mb, h⟩ := own_at h
  exact ⟨.ref b, g1, b, ws, rfl, .inl (SqL.of hb), fun q hq => h.retS (step_tup hq) (h.ok.wf.tup hq) (rN_ls (Step.refl _ _ _) h.ok.wf hq l)⟩
end
end Pu
set_option Elab.async false
set_option linter.all false
set_option maxRecDepth 100000
set_option maxHeartbeats 4000000
/-! a property that gives back a new thing -/
namespace Pu
open PySem L2 Stp NdefX LamX
open PyProof.Rows hiding St
def propN (cs : List Nat) (mf : List D → T O) : D → T O
  | .obj c fs => if c ∈ cs then (mf [.obj c fs]).noX else .fail
  | _ => .fail
def qPN (cs : List Nat) (mf : List D → T O) (mo : Env → T D) : Env → T O := fun env => (mo env).bind (propN cs mf)
section
variable {X : Cx} {G : GC} {W : WX} {k : Nat} {g : Addr} {f : Str} {fd : FuncData} {pos : Pos} {e : Expr} {mf : List D → T O} {mo : Env → T D}
theorem n_prop (cs : List Nat) (hk : X.K = G.K) (hc : ∀ c ∈ cs, ∀ A, G.cA c = some A → Cls G.K A ∧ ∃ p, PropOf G.K A f p g) (F : FnOk X.prog X.w X.K X.mg X.base (L2.CX X.prog X.w) k g fd ["self"] (spN G 1 mf)) (hr : Room (k + 1) X.A) (hb : Binds X.K fd ["self"] [])
    (he : PE X e (tQ G W false mo)) (hab : attributeBase e f X.env (eval e X.env) = eval e X.env := by rfl) : PE X (.Attribute e f pos) (tN G W (qPN cs mf mo)) := by
  refine PE.imp (pe_propS he F hr hb hab) fun σ H Q h => ?_
  obtain ⟨C, n, env, us, h⟩ := h
  refine ⟨C, n, env, us, (h.bind (R := rV G false)).imp ?_⟩
  rintro v H1 ⟨C1, n1, d, s1, r1, h1⟩
  have r1 := r1.unview
  cases r1 <;> try exact h1.no.elim
  case obj p A dx c vs ds fp hp hA l =>
    replace h1 : At G W (rN G H) σ env us C1 n1 H1 (if c ∈ cs then (mf [.obj c ds]).noX else .fail) Q := h1
    by_cases hcs : c ∈ cs
    · rw [if_pos hcs] at h1
      obtain ⟨c1, q, c2⟩ := hc c hcs A hA
      rw [hk]
      refine ⟨p, A, q, dx, vs, rfl, hp, c1, c2, C1, n1, [.obj c ds], h1.ok.wf, .cons (.obj fp hp hA l) .nil, rfl, T.wp_mono (T.wp_noX (E' := fun _ _ => False) h1.wp) (fun o n' _ z C' H' v s w r => ?_) (fun _ _ _ z => False.elim z)⟩
      obtain ⟨us1, ro, nd, hv⟩ := r
      exact z C' H' v s w ⟨us1, ro, nd, fun a m => ⟨(hv a m).1, (hv a m).2.1, s1.back (hv a m).2.2.1, (hv a m).2.2.2⟩⟩
    · rw [if_neg hcs] at h1; exact h1.no.elim
end
end Pu
set_option Elab.async false
set_option linter.all false
set_option maxRecDepth 100000
set_option maxHeartbeats 4000000
/-! a new object made of things that are only looked at -/
namespace Pu
open PySem L2 Stp NdefX LamX
open PyProof.Rows hiding St
section
variable {X : Cx} {G : GC} {E : XK} {k c : Nat} {f A : Addr} {fd : FuncData} {ps : List Str} {x : Str} {p pos : Pos} {e : Expr} {es : List Expr} {ma : Env → T (List D)} {mi : Nat → List (Str × D) → List D → T (List (Str × D))}
/-- C(..), looked at -/
theorem s_makW (tk : Takes X (fun cls d _ H => E cls d H)) (hA : G.cA c = some A) (M : Mk X.K A f) (F : FnOk X.prog X.w X.K X.mg X.base (L2.CX X.prog X.w) k f fd ps (spI G ps.length mi)) (hr : Room (k + 1) X.A) (hg : Gl X x) (hm : X.mg x = some (.ref A)) (hb : Binds X.K fd ps [])
    (ha : PA X (e :: es) (tA G (fun cls d _ H => E cls d H) true ma)) (hdb : (x == ("__debug__" : Str)) = false := by decide) (he : starEach (e :: es) X.env = (false, eval e X.env) :: starEach es X.env := by rfl) (hpl : (backTo pos (starEach es X.env)).any (·.1) = false := by rfl) :
    PE X (.Call (.Name x p) (e :: es) [] pos) (tQ G (fun cls d _ H => E cls d H) true (qN (fun ds => grd (ds.length + 1 = ps.length) ((mi c [] ds).bind fun fs => .ret (.obj c fs))) ma)) := by
  refine PE.imp (pe_make M F hr hg hm hb .nil (fun pins σ H s e s' I c => passAt tk σ pins H s e s' I c) ha hdb he hpl) fun σ H Q h => ?_
  obtain ⟨C, n, env, us, h⟩ := h
  refine ⟨C, n, env, us, (h.bind (R := rA G true)).imp ?_⟩
  rintro vs H1 ⟨C1, n1, ds, s1, r1, h1⟩ a dx ha' hdx ne
  obtain ⟨hl, h1⟩ := h1.grd
  have wf0 := h1.ok.wf
  have wfa : Wf G (C1.all H1) n1 H1 := all_wf wf0
  have s2 := step_tup (C := C1.all H1) (o := .own a) hdx
  have w2 := wfa.tup (o := .own a) hdx
  have ha2 : upd H1 dx (.own a) a = none := by rw [upd_ne (Ne.symm ne)]; exact ha'
  have s3 := s2.trans (step_tup (C := C1.all H1) (o := .ins A dx []) ha2) (by simp)
  have w3 := w2.tup (o := .ins A dx []) ha2
  have nfa : ¬ (C1.all H1).F a := fun z => by
    obtain ⟨⟨o, e, _⟩, _⟩ := wfa.fz a z
    rw [ha'] at e; cases e
  rw [List.append_nil]
  refine ⟨C1.all H1, n1, c, A, dx, a, [], [], vs, ds, rfl, upd_same, hA, .nil, (r1.nx all_nx).nx s3.nx, hl, w3, nfa, wfa.pne ha', T.wp_mono (T.wp_bind h1.wp) ?_ ?_⟩
  · intro fs' n' _ z C' H' vfs' st wf nf np hv rf
    have st2 : Step [] (C1.all H1) H1 (⟨fun b => b = a ∨ C'.F b, C'.pen, C'.me⟩ : Cf) H' := by
      have keep : ∀ b o, H1 b = some o → upd (upd H1 dx (.own a)) a (.ins A dx []) b = some o := fun b o e => by
        rw [upd_ne (ne_of_none e ha'), upd_ne (ne_of_none e hdx)]; exact e
      refine ⟨fun b o e t n1 n2 => st.kp b o (keep b o e) t (fun z => ne_of_none e ha' (List.mem_singleton.mp z)) n2, fun b o e => st.al b o (keep b o e), ⟨fun b o f e t => ?_, fun b xs e => st.nx.tp b xs (keep _ _ e), fun b o u e => st.nx.fp b o u (keep _ _ e), fun b φ e => st.nx.xp b φ (keep _ _ e), st.nx.pn⟩, fun b z => ?_, fun b z => ?_, st.me⟩
      · obtain ⟨q1, q2⟩ := st.nx.fk b o f (keep b o e) t
        exact ⟨.inr q1, q2⟩
      · rcases z with z | z
        · exact .inr (.inr (by rw [z]; exact ha'))
        · rcases st.fn b z with y | y | y
          · exact .inl y
          · exact .inr (.inr (by rw [List.mem_singleton.mp y]; exact ha'))
          · refine .inr (.inr ?_)
            by_cases hb : b = a
            · rw [hb]; exact ha'
            · by_cases hb2 : b = dx
              · rw [hb2]; exact hdx
              · rw [upd_ne hb, upd_ne hb2] at y; exact y
      · rcases st.pf b z with y | y
        · exact .inl y
        · refine .inr ?_
          by_cases hb : b = a
          · rw [hb]; exact ha'
          · by_cases hb2 : b = dx
            · rw [hb2]; exact hdx
            · rw [upd_ne hb, upd_ne hb2] at y; exact y
    have wf2 : Wf G (⟨fun b => b = a ∨ C'.F b, C'.pen, C'.me⟩ : Cf) n' H' := by
      refine ⟨wf.pen, fun b z => ?_, wf.tab⟩
      rcases z with z | z
      · rw [z]; exact ⟨⟨_, hv, fun _ z => by cases z⟩, np⟩
      · exact wf.fz b z
    have nxv : Nx C' (⟨fun b => b = a ∨ C'.F b, C'.pen, C'.me⟩ : Cf) H' H' := ⟨fun b o f h _ => ⟨Or.inr f, h⟩, fun _ _ h => h, fun _ _ _ h => h, fun _ _ h => h, fun _ h => h⟩
    have ro : Rep G (⟨fun b => b = a ∨ C'.F b, C'.pen, C'.me⟩ : Cf) H' (.ref a) (.obj c fs') := .obj (.inl rfl) hv hA (rf.nx nxv)
    exact ⟨rfl, z _ H' (.ref a) (beh_step st2) (beh_wf wf0 st2 wf2) (ro.nx (beh_nx wf2))⟩
  · intro e n' _ z C' H' cls dx' st wf rx
    have keep : ∀ b o, H1 b = some o → upd (upd H1 dx (.own a)) a (.ins A dx []) b = some o := fun b o e => by
      rw [upd_ne (ne_of_none e ha'), upd_ne (ne_of_none e hdx)]; exact e
    have back : ∀ b, upd (upd H1 dx (.own a)) a (.ins A dx []) b = none → H1 b = none := fun b y => by
      by_cases hb : b = a
      · rw [hb]; exact ha'
      · by_cases hb2 : b = dx
        · rw [hb2]; exact hdx
        · rw [upd_ne hb, upd_ne hb2] at y; exact y
    have st2 : Step [] (C1.all H1) H1 C' H' := by
      refine ⟨fun b o e t n1 n2 => st.kp b o (keep b o e) t (fun z => ne_of_none e ha' (List.mem_singleton.mp z)) n2, fun b o e => st.al b o (keep b o e), ⟨fun b o f e t => st.nx.fk b o f (keep b o e) t, fun b xs e => st.nx.tp b xs (keep _ _ e), fun b o u e => st.nx.fp b o u (keep _ _ e), fun b φ e => st.nx.xp b φ (keep _ _ e), st.nx.pn⟩, fun b z => ?_, fun b z => (st.pf b z).elim .inl fun y => .inr (back b y), st.me⟩
      rcases st.fn b z with y | y | y
      · exact .inl y
      · exact .inr (.inr (by rw [List.mem_singleton.mp y]; exact ha'))
      · exact .inr (.inr (back b y))
    exact z _ H' cls dx' (beh_step st2) (beh_wf wf0 st2 wf) rx
end
/-! calls without arguments -/
section
variable {X : Cx} {G : GC} {W : WX} {k : Nat} {f : Addr} {fd : FuncData} {ps : List Str} {x : Str} {p pos : Pos} {mf : List D → T D}
theorem call0_read {np : Nat} {σ : St} {H : Hp} {Q : VK} (h : tQ G W false (qN (fun ds => grd (ds.length = np) (mf ds)) aNil) σ H Q) : spM G np mf [] H Q (WE W σ) := by
  obtain ⟨C, n, env, us, h⟩ := h
  have h1 : At G W (rV G false) σ env us C n H (grd (([] : List D).length = np) (mf [])) Q := h
  obtain ⟨hl, h1⟩ := h1.grd
  exact ⟨C, n, [], h1.ok.wf, .nil, hl, T.wp_mono h1.wp (fun d n' _ z C' H' v s w r => z C' H' v s w (r.view false)) (fun e n' _ z C' H' cls dx s w r => z C' H' cls dx s w r)⟩
theorem s_call0 (tk : Takes X W) (F : FnOk X.prog X.w X.K X.mg X.base (L2.CX X.prog X.w) k f fd ps (spM G ps.length mf)) (hr : Room k X.A) (hg : Gl X x) (hm : X.mg x = some (.ref f)) (hk : PySem.W.keepIn X.K (.ref f) = true) (hb : Binds X.K fd ps [])
    (hdb : (x == ("__debug__" : Str)) = false := by decide) : PE X (.Call (.Name x p) [] [] pos) (tQ G W false (qN (fun ds => grd (ds.length = ps.length) (mf ds)) aNil)) := by
  refine ⟨fun pins s σ H Q I h => ?_⟩
  refine wpAny_Call_Name_kw (ld_glob I hg hm ?_ hdb)
  exact PySem.W.callWith_K0 (first := []) I.kIn hk (run_fnS (us := []) (vs := []) F hr hb (passAt tk σ) I .nil (call0_read h))
theorem s_call0G (tk : Takes X W) (F : FnG X.prog X.w X.K X.mg X.base k f fd ps (spM G ps.length mf)) (hr : Room k X.A) (hgd : X.A.guards = some []) (hg : Gl X x) (hm : X.mg x = some (.ref f)) (hk : PySem.W.keepIn X.K (.ref f) = true) (hb : Binds X.K fd ps [])
    (hdb : (x == ("__debug__" : Str)) = false := by decide) : PE X (.Call (.Name x p) [] [] pos) (tQ G W false (qN (fun ds => grd (ds.length = ps.length) (mf ds)) aNil)) := by
  refine ⟨fun pins s σ H Q I h => ?_⟩
  refine wpAny_Call_Name_kw (ld_glob I hg hm ?_ hdb)
  exact PySem.W.callWith_K0 (first := []) I.kIn hk (run_g (us := []) (vs := []) tk F hr hgd hb I .nil (call0_read h))
end
section
variable {X : Cx} {G : GC} {W : WX} {me : Env → T O}
/-- x = [list(..) for ..], x a local name that owns the list and its lists -/
theorem st_asgLL {i : Nat} {y : Str} {py : Pos} {elt tg iter : Expr} {scope : Scope} {own : List (Str × Nat)} {cpos spos : Pos} {it : Env → T (List D)} {pt : Pt} (hk : X.K = G.K) (hc : X.calm = true) (hN : X.N.Nodup) (hy : X.N[i]? = some y) (hyl : X.env.scope.names.lookup y = some .local)
    (hsw : swapsWith (.ListComp elt [⟨tg, iter, [], 0⟩] scope cpos) (some (.Name y py)) spos.line X.env = pure true) (hi : PI X tg iter (tI G W it)) (ok : BlkOk X.N X.env.scope scope own) (hown : ∀ j ∈ pt.slots, j ∈ own.map (·.2))
    (hg : ∀ (s : Shared) (H : Hp) (C : Addr) (cl : List (Str × Addr)) (fp : List Addr), PG (X.blk s H scope (compEnvC scope cl C X.env) fp) tg (gP X.K pt))
    (he : ∀ (s : Shared) (H : Hp) (C : Addr) (cl : List (Str × Addr)) (fp : List Addr), PE (X.blk s H scope (compEnvC scope cl C X.env) fp) elt (tN G W0 me)) (hs : ∀ x, foldedSetIterable iter X.env x = pure x := by intro _; rfl) :
    PS X (.Assign [.Name y py] (.ListComp elt [⟨tg, iter, [], 0⟩] scope cpos) spos) (tS G W (asgO i (oCompLL it pt (own.map (·.2)) me))) := by
  refine PS.imp (ps_setLc hc hN hy hyl hsw hi ok hg (fun _ _ _ _ _ => pts_nil) he hs) fun E σ H h => compLL_read hk hown ?_
  obtain ⟨C, n, env, us, h⟩ := h
  refine ⟨C, n, env, us, (h.exprW (R := rN G H)).imp ?_⟩
  rintro v H1 ⟨C1, n1, o, s1, r1, k1, w1⟩
  obtain ⟨us', k2, sb⟩ := own_new h.ok k1 r1 i
  exact w1 C1 H1 us' (s1.up (by simp)) sb _ k2
end
end Pu
set_option Elab.async false
set_option linter.all false
set_option maxRecDepth 100000
set_option maxHeartbeats 4000000
/-! what is never reached; *range(..); pop; displays and lists of dicts whose keys are tuples -/
namespace Pu
open PySem L2 Stp NdefX LamX
open PyProof.Rows hiding St
section
variable {X : Cx} {G : GC} {W : WX} {b : Bool} {e : Expr} {st : Stmt}
/-- code without a rule: a law has to show that it is not reached -/
theorem s_fail : PE X e (tQ G W b fun _ => .fail) := ⟨fun pins s σ H Q I h => by
  obtain ⟨C, n, env, us, h⟩ := h
  exact h.no.elim⟩
theorem st_fail : PS X st (tS G W fun _ => .fail) := ⟨fun pins s σ H Q I h => by
  obtain ⟨C, n, env, us, h⟩ := h
  exact h.no.elim⟩
end
/-! ### the items of a range -/
section
variable {prog : Program} {w : World} {A : Around} {E : Value → Shared → Prop} {s : Shared}
theorem collect_range {Q : List Value → Shared → Prop} {r : Addr} {a b : Int} {t u v : Tok} {n : Nat} (hh : A.handled = none) (hr : IsRange s.heap r a b 1 t u v) (hsmall : Builtin.Range.small a b 1 = true)
    (hn : Builtin.Range.rangeSize a b 1 = n) (hlen : n ≤ 2 ^ 24)
    (hQ : ∀ h' tk (acc : Array Value), (∀ b o, s.heap.get? b = some o → h'.get? b = some o) → ItemsOf (fun i v => ∃ t, v = .int (a + i * 1) t) acc n → Q acc.toList { s with heap := h', toks := tk }) : wpAny (model prog w) A (collect (.ref r)) Q E s := by
  unfold collect
  refine wpAny_bind (wpAny_runValue (codeAny_builtin F.entry_proto_collect ?_))
  rw [Around.under_plainId F.plain_proto_collect _]
  show wpAny _ A.in1 (newList [] >>= fun l => again (.builtin "list.__iadd__" ⟨[l, .ref r], []⟩)) _ _ s
  refine wpAny_bind (wpAny_newObj_type ?_)
  refine wpAny_pure ⟨plainId_quiet F.plain_list_iadd _, codeAny_builtin F.entry_list_iadd ?_⟩
  rw [Around.under_plainId F.plain_list_iadd _]
  have hS : (s.heap.push { cls := .type "list", data := .seq ([] : List Value).toArray }).get? s.heap.objs.size = some { cls := .type "list", data := .seq #[] } := Heap.get?_push_size _ rfl
  show wpAny _ A.in1 (Builtin.List.listExtendWith (.ref s.heap.objs.size) (.ref r) (.ref s.heap.objs.size)) _ _ _
  refine wpAny_mono (wpAny_extend_range (A := A) (s := { s with heap := s.heap.push { cls := .type "list", data := .seq ([] : List Value).toArray } }) (R := fun r s2 => r = .ok (.ret (.ref s.heap.objs.size)) ∧ ∃ (acc : Array Value) (c : Nat), s2.heap.get? s.heap.objs.size = some { cls := .type "list", dict := none, data := .seq acc c, slots := #[] } ∧ Q acc.toList s2) hh (Heap.get?_push_of_some _ hr) hsmall hn hlen _ (.ref s.heap.objs.size) _ hS fun h' tk acc' c' hk hS' hacc => ⟨rfl, acc', c', hS', hQ h' tk acc' (fun b o e => hk b o (Nat.ne_of_lt (Heap.lt_size e)) (Heap.get?_push_of_some _ e)) hacc⟩) ?_ ?_
  · intro fin s2 hf
    cases fin with
    | done f =>
      obtain ⟨e, acc, c, h1, h2⟩ := hf
      cases e
      exact wpAny_bind (wpAny_load h1 (wpAny_pure h2))
    | again c' =>
      obtain ⟨q, hf⟩ := hf
      refine ⟨q, codeAny_mono hf ?_⟩
      rintro r s3 ⟨e, acc, c, h1, h2⟩
      subst e
      exact wpAny_bind (wpAny_load h1 (wpAny_pure h2))
  · rintro e s2 ⟨e1, _⟩
    cases e1
end
section
variable {X : Cx} {pins : List (Addr × Obj)} {σ : L2.St} {H : Hp} {s : Shared}
theorem star_rng {r : Addr} {a b : Int} {t u v : Tok} {E : Value → Shared → Prop} {Q : List Value → Shared → Prop} (hc : X.calm = true) (I : Inv X pins σ H s) (hr : IsRange s.heap r a b 1 t u v) (ok : RgOk a b) (hQ : ∀ us s', Inv X pins σ H s' → Vals (rgV a b) us → Q us s') : PySem.W.StarOf (model X.prog X.w) X.A E (.ref r) Q s := by
  have hT : s.TypeIs (.ref r) "range" := ⟨_, hr, rfl⟩
  obtain ⟨b1, b2, b3, b4, b5⟩ := ok
  unfold PySem.W.StarOf notIterableAtAll
  exact wpAny_bind (wpAny_specialOf hT PySem.F.slot_range_iter.lookup (wpAny_pure ⟨rfl, collect_range (I.ok.hd hc) hr (small_one b1 b2 b3 b4) (rangeSize_nat a b) b5 fun h' tk acc hk hi => hQ _ _ (I.kept hk) (vals_rg hi)⟩))
end
def tStarR (te : L2.St → Hp → (Int → Int → Hp → Prop) → Prop) (t : TA) : TA := fun σ H Q => te σ H fun a b H1 => RgOk a b ∧ t σ H1 fun ys H2 => Q (rgV a b ++ ys) H2
theorem pa_starR {X : Cx} {e : Expr} {es : List Expr} {te : L2.St → Hp → (Int → Int → Hp → Prop) → Prop} {t : TA} {p : Pos} (hc : X.calm = true) (he : PRg X e te) (hr : PA X es t) (hs : starEach (.Starred e p :: es) X.env = (true, eval e X.env) :: starEach es X.env := by rfl) : PA X (.Starred e p :: es) (tStarR te t) := by
  refine ⟨fun pos pins s σ H Q I h => ?_⟩
  refine PySem.W.items_star (thn (he pins s σ H _ I h) fun v s1 ⟨r, a, b, t, u, w, H1, ev, hrg, I1, ok, q⟩ => ?_) hs
  subst ev
  refine star_rng hc I1 hrg ok fun us s2 I2 rv => ?_
  exact thn (hr.run pos pins s2 σ H1 _ I2 q) fun ws s3 ⟨vs, H3, I3, r3, q3⟩ => ⟨rgV a b ++ vs, H3, I3, rv.append r3, q3⟩
def aStarR (m : Env → T D) (k : Env → T (List D)) : Env → T (List D) := fun env => (m env).bind fun d => match d with
  | .int n => grd (0 ≤ n ∧ n ≤ 1000000) ((k env).bind fun ys => .ret (rgD 0 n ++ ys))
  | _ => .fail
section
variable {X : Cx} {G : GC} {W : WX} {b : Bool} {a : Expr} {es : List Expr} {m : Env → T D} {k : Env → T (List D)} {p ip pos : Pos}
theorem a_starR1 (hc : X.calm = true) (hg2 : Gl X "range") (hm2 : X.mg "range" = none) (ha : PE X a (tQ G W false m)) (hr : PA X es (tA G W b k)) (na2 : starEach [a] X.env = (false, eval a X.env) :: starEach [] X.env := by rfl)
    (hs : starEach (.Starred (.Call (.Name "range" ip) [a] [] pos) p :: es) X.env = (true, eval (.Call (.Name "range" ip) [a] [] pos) X.env) :: starEach es X.env := by rfl) : PA X (.Starred (.Call (.Name "range" ip) [a] [] pos) p :: es) (tA G W b (aStarR m k)) := by
  refine PA.imp (pa_starR hc (prg_1 hg2 hm2 ha na2) hr hs) fun σ H Q h => ?_
  obtain ⟨C, n, env, us, h⟩ := h
  refine ⟨C, n, env, us, (h.bind (R := rV G false)).imp ?_⟩
  rintro v H1 ⟨C1, n1, d, s1, r1, h1⟩
  cases r1 <;> try exact h1.no.elim
  case int i =>
    obtain ⟨⟨h0, hl⟩, h2⟩ := h1.grd
    refine ⟨i, rfl, RgOk.of_le (by omega) (by omega) (by omega) (by omega), C1, n1, env, us, (h2.bind (R := rA G b)).imp ?_⟩
    rintro ws H2 ⟨C2, n2, ys, s2, r2, h3⟩
    exact h3.ret ((rgV_rep 0 i).append r2)
end
/-! ### pop -/
def popS (i : Nat) (mi : Env → T D) (pt : Pt) : Env → T Fl := fun env => ownL i env fun xs => exS mi (fun d env => match d with
  | .int k => (match ixN xs.length k with
    | some j => (match xs[j]? with
      | some y => (match putP pt y (env.set i (some (.ls (xs.eraseIdx j)))) with
        | some env' => grd (xs.length ≤ big) (.ret (.nx env'))
        | none => .fail)
      | none => .fail)
    | none => .fail)
  | _ => .fail) env
def pop0S (i : Nat) (pt : Pt) : Env → T Fl := fun env => ownL i env fun xs => (match xs[xs.length - 1]? with
  | some y => (match putP pt y (env.set i (some (.ls xs.dropLast))) with
    | some env' => .ret (.nx env')
    | none => .fail)
  | none => .fail)
theorem RepL.dropLast {G : GC} {C : Cf} {H : Hp} {vs : List V} {ds : List D} (r : RepL G C H vs ds) : RepL G C H vs.dropLast ds.dropLast := by
  rw [List.dropLast_eq_take, List.dropLast_eq_take, r.length]
  exact r.take _
section
variable {X : Cx} {G : GC} {W : WX} {i : Nat} {mi : Env → T D} {o ei tg : Expr} {ap cp pos : Pos} {pt : Pt}
theorem st_pop (hk : X.K = G.K) (hv : PE X o (tVar i)) (hi : PE X ei (tQ G W false mi)) (hg : PG X tg (gP X.K pt))
    (hbase : attributeBase o "pop" X.env (eval o X.env) = eval o X.env := by rfl)
    (hfew : ((backTo cp (starEach [ei] X.env)).all (fun x => !x.1) && (backToKw cp (keywordEach [] X.env)).all (fun x => x.1.isSome) && decide (([ei] : List Expr).length + ([] : List Keyword).length + (if ([] : List Keyword).isEmpty then 0 else 1) < 30)) = true := by rfl)
    (hline : (ap.endLine == cp.line) = true := by rfl) (hs1 : starEach [ei] X.env = (false, eval ei X.env) :: starEach [] X.env := by rfl) (hplain : (backTo cp (starEach [] X.env)).any (·.1) = false := by rfl)
    (hs : swapsWithSole [tg] (.Call (.Attribute o "pop" ap) [ei] [] cp) pos.line X.env = pure false := by rfl) (hw : swappedStores [tg] (.Call (.Attribute o "pop" ap) [ei] [] cp) X.env = pure none := by rfl) (h1 : (assignEach [tg] X.env).map (·.2) = [assign tg X.env] := by rfl) :
    PS X (.Assign [tg] (.Call (.Attribute o "pop" ap) [ei] [] cp) pos) (tS G W (popS i mi pt)) := by
  refine PS.imp (ps_asg (pe_bm PySem.F.plainAttrs_list PySem.F.slot_list_pop PySem.F.type_list_pop mt_popAt hv (pa_cons hi pa_nil hs1) hbase hfew hline hs1 hplain) hg hs hw h1) fun E σ H h => ?_
  obtain ⟨C, n, env, us, h⟩ := h
  obtain ⟨xs, e1, w⟩ := ownL_at h.wp
  obtain ⟨a, vs, f, hp, l, ma, np⟩ := h.ok.atLs e1
  refine ⟨.ref a, f, .inl ⟨rfl, vs, SqL.of hp⟩, C, n, env, us, (AtS.expr (R := rV G false) (σ := σ) (H := H) (C := C) (n := n) (us := us) (W := W) (E := E) ⟨h.ok, w⟩).imp ?_⟩
  rintro v H1 ⟨C1, n1, d, s1, r1, h1⟩
  have hp1 : H1 a = some (.lst vs) := s1.kp a _ hp (fun _ z => by cases z) (by simp) np
  have l1 := l.nx s1.nx
  cases r1 <;> try exact h1.no.elim
  case int k =>
    dsimp only at h1
    cases q : ixN xs.length k with
    | none => rw [q] at h1; exact h1.no.elim
    | some j =>
      rw [q] at h1
      dsimp only at h1
      cases qy : xs[j]? with
      | none => rw [qy] at h1; exact h1.no.elim
      | some y =>
        rw [qy] at h1
        dsimp only at h1
        cases ep : putP pt y (env.set i (some (.ls (xs.eraseIdx j)))) with
        | none => rw [ep] at h1; exact h1.no.elim
        | some env' =>
          rw [ep] at h1
          obtain ⟨hl, h2⟩ := grd_wp h1.wp
          obtain ⟨yv, ey, ry⟩ := l1.get qy
          obtain ⟨k2, s2⟩ := h1.ok.setLs f e1 hp1 ma (l1.eraseIdx j)
          have hq : seqIndex? k vs.length = some j ∧ (-(2 ^ 63) ≤ k ∧ k < 2 ^ 63) := by
            rw [l1.length]
            unfold ixN at q
            unfold big at hl
            unfold seqIndex?
            split at q
            · split at q
              · cases q
                exact ⟨by simp; omega, by omega⟩
              · cases q
            · split at q
              · cases q
                exact ⟨by simp; omega, by omega⟩
              · cases q
          obtain ⟨hq, hb⟩ := hq
          refine ⟨a, vs, k, j, yv, rfl, rfl, hp1, hb.1, hb.2, hq, ey, ?_⟩
          exact gP_ok hk k2 (ry.nx s2.nx) ep fun σ' us' ok' sb _ => h2 C1 _ us' s2 (fun a m => .inl (sb a m)) σ' ok'
end
/-! ### a display with one pair, its key a tuple -/
def tDisp1T (tk tv : TE) : TE := fun σ H Q => ∀ p, H p = none → tPairs [(tk, tv)] σ (upd H p (.dT [])) fun ps H2 => ∃ x y, ps = [(x, y)] ∧ H2 p = some (.dT []) ∧ ∃ b k, x = V.ref b ∧ H2 b = some (.tup (k.map kV)) ∧ Q (.ref p) (upd H2 p (.dT [(k, y)]))
theorem pe_disp1T {X : Cx} {pos : Pos} {e v : Expr} {tk tv : TE} (hu : X.A.units + 1 < cLine) (hk : PE X e tk) (hv : PE X v tv) : PE X (.Dict [some e] [v] pos) (tDisp1T tk tv) := by
  refine ⟨fun pins s σ H Q I q => ?_⟩
  have hn := I.hok.fresh (Nat.le_refl s.heap.objs.size)
  have I1 := I.laid (a := s.heap.objs.size) (o := .dT []) (h' := s.heap.push { cls := .type "dict", data := .dict #[] }) (t' := s.toks) (fun _ _ q => Heap.get?_push_of_some _ q) (Nat.le_refl _) (dt_empty s.heap I.big)
  rw [arm_eval_Dict, zip_pairTrees [some e] [v] X.env pos rfl rfl, dictDisplay_pairs (pairTrees [some e] [v] X.env pos) (fun z => by simp [pairTrees] at z) (by simp [pairTrees])]
  refine wpAny_bind (wpAny_standAt (wpAny_bind (wpAny_subDictH (knd := tupleKind (mixKind X.prog X.w)) (Q := fun d s' => wpAny (model X.prog X.w) X.A (pure (Value.ref d)) (EP X pins σ Q) X.xe s') (show X.A.units < cLine by omega) (by simp [pairTrees]) ?_)))
  refine thn ((pps_cons hk hv pps_nil).run pins _ σ _ _ I1 (q _ hn)) fun ws s2 ⟨ps, H2, I2, rel, x, y, ep, e2, b, k, ex, eb, q2⟩ => ?_
  subst ep ex
  obtain ⟨w, rfl, r1, r2⟩ : ∃ w, ws = [(Value.ref b, w)] ∧ RelV (.ref b) (.ref b) ∧ RelV y w := by
    cases rel with
    | @cons _ pw _ _ h t =>
      cases t
      obtain ⟨p1, p2⟩ := pw
      obtain ⟨h1, h2⟩ := h
      have h1 : p1 = Value.ref b := h1
      subst h1
      exact ⟨p2, rfl, rfl, h2⟩
  obtain ⟨z, hd, xs, rl, dd⟩ := dt_of I2.hok e2
  cases rl
  refine ⟨[(k, b, w)], ⟨rfl, rfl, key_of I2.hok eb, trivial⟩, dd, fun h' tk' dd' hs => wpAny_pure ⟨.ref s.heap.objs.size, _, ?_, rfl, q2⟩⟩
  obtain ⟨q', es, ep, hq, h2, h3, h4, _, h5⟩ := dd'
  refine d_write I2 (by rw [e2]; exact True.intro) hs ⟨q', hq⟩ ⟨by rw [sizeLine_eq]; simp, hd, [(k, b, w)], .cons ⟨rfl, ?_, r2⟩ .nil, q', es, ep, hq, h2, h3, h4, h5⟩
  rw [upd_ne (ne_of eb e2 (fun z => nomatch z))]
  exact eb
theorem At.after {α β : Type} {G : GC} {W : WX} {R : RR α β} {σ : St} {env : Env} {us : List Addr} {C C1 : Cf} {n : Nat} {H H1 : Hp} {t : T α} {Q : β → Hp → Prop} (h : At G W R σ env us C n H t Q) (s : Step [] C H C1 H1) (w : Wf G C1 n H1) : At G W R σ env us C1 n H1 t Q :=
  ⟨h.ok.q s w, T.wp_mono h.wp (fun a m _ z C' H' v s' wf r => z C' H' v (s.trans s' (by simp)) wf r) (fun e m _ z C' H' cls dx s' wf r => z C' H' cls dx (s.trans s' (by simp)) wf r)⟩
theorem step_mut {C : Cf} {H : Hp} {a : Addr} {u u' : HO} (nf : ¬ C.F a) (hp : H a = some u) (h1 : ∀ xs, u ≠ .tup xs) (h2 : ∀ x y, u ≠ .frz x y) (h3 : ∀ φ, u ≠ .ext φ) : Step [a] C H C (upd H a u') := by
  have ne : ∀ b w, H b = some w → w ≠ u → upd H a u' b = some w := fun b w h d => by
    rw [upd_ne (fun z => d (by rw [z, hp] at h; exact (Option.some.inj h).symm))]
    exact h
  refine ⟨fun b w q _ nu _ => ?_, fun b w q => ?_, ⟨fun b w f h _ => ⟨f, by rw [upd_ne (fun z => nf (by rw [← z]; exact f))]; exact h⟩, (fun b xs h => ne b _ h fun z => h1 xs z.symm), (fun b w x h => ne b _ h fun z => h2 w x z.symm), (fun b φ h => ne b _ h fun z => h3 φ z.symm), fun _ h => h⟩, fun b z => .inl z, fun b z => .inl z, rfl⟩
  · rw [upd_ne (fun z => nu (by rw [z]; exact List.mem_singleton.mpr rfl))]
    exact q
  · by_cases hb : b = a
    · rw [hb]
      exact ⟨u', upd_same⟩
    · exact ⟨w, by rw [upd_ne hb]; exact q⟩
def oDisp1T (mk mv : Env → T D) : Env → T O := fun env => (mk env).bind fun k => (mv env).bind fun d => match k with
  | .tup ks => (match keysD ks with
    | some kk => .ret (.dt [(kk, d)])
    | none => .fail)
  | _ => .fail
section
variable {X : Cx} {G : GC} {W : WX} {e v : Expr} {mk mv : Env → T D} {pos : Pos}
theorem n_disp1T (hu : X.A.units + 1 < cLine) (hk : PE X e (tQ G W false mk)) (hv : PE X v (tQ G W false mv)) : PE X (.Dict [some e] [v] pos) (tN G W (oDisp1T mk mv)) := by
  refine PE.imp (pe_disp1T hu hk hv) fun σ H Q h p hp => ?_
  obtain ⟨C, n, env, us, h⟩ := h
  have s0 := step_tup (C := C) (o := .dT []) hp
  have w0 := h.ok.wf.tup (o := .dT []) hp
  have nf0 : ¬ C.F p := fun z => by
    obtain ⟨⟨o, e, _⟩, _⟩ := h.ok.wf.fz p z
    rw [hp] at e; cases e
  have np0 : p ∉ C.pa := h.ok.wf.pne hp
  have k0 := h.ok.q s0 w0
  refine ⟨C, n, env, us, k0, T.wp_mono (T.wp_bind h.wp) ?_ fun e m _ z C' H' cls dx s' wf r => z C' H' cls dx (s0.trans s' (by simp)) wf r⟩
  intro d1 n1 _ z1 C1 H1 x s1 w1 r1
  refine ⟨C1, n1, env, us, k0.q s1 w1, T.wp_mono (T.wp_bind z1) ?_ fun e m _ z C' H' cls dx s' wf r => z C' H' cls dx (s0.trans (s1.trans s' (by simp)) (by simp)) wf r⟩
  intro d2 n2 _ z2 C2 H2 y s2 w2 r2
  have r1 := (r1.unview.nx s2.nx)
  have s12 := s1.trans s2 (by simp)
  have hp2 : H2 p = some (.dT []) := s12.kp p _ upd_same (fun _ z => nomatch z) (by simp) np0
  have nf2 : ¬ C2.F p := fun z => by
    rcases s12.fn p z with z | z | z
    · exact nf0 z
    · cases z
    · rw [upd_same] at z; cases z
  have np2 : p ∉ C2.pa := fun z => by
    rcases s12.pf p z with z | z
    · exact np0 z
    · rw [upd_same] at z; cases z
  cases r1 <;> try exact z2.elim
  case tup b vs ds hb l =>
    dsimp only at z2
    cases q : keysD ds with
    | none => rw [q] at z2; exact z2.elim
    | some kk =>
      rw [q] at z2
      have s3 := step_mut (u' := .dT [(kk, y)]) nf2 hp2 (fun _ z => nomatch z) (fun _ _ z => nomatch z) (fun _ z => nomatch z)
      have hk2 : H2 b = some (.tup (kk.map kV)) := by rw [hb, l.keys q]
      have w3 := w2.mut (o' := .dT [(kk, y)]) hp2 nf2 np2 (fun _ z => nomatch z) (fun _ z => nomatch z)
      have r3 : Rep G C2 (upd H2 p (.dT [(kk, y)])) y d2 := r2.unview.nx s3.nx
      refine ⟨.ref b, y, rfl, hp2, b, kk, rfl, hk2, ?_⟩
      refine z2 C2 (upd H2 p (.dT [(kk, y)])) (.ref p) ((s0.trans s12 (by simp)).trans s3 fun a m => .inr (by rw [List.mem_singleton.mp m]; exact hp)) w3 ⟨[p], .dt upd_same (.cons r3 .nil), by simp, fun a m => ?_⟩
      rw [List.mem_singleton.mp m]
      exact ⟨nf2, np2, hp, _, upd_same, fun _ z => nomatch z⟩
end
/-! ### list(d), d a dict whose keys are tuples -/
def kD : Key → D
  | .inl i => .int i
  | .inr x => .str x
def listTF : List D → T D
  | [.dT kvs] => .ret (.lst (kvs.map fun kv => .tup (kv.1.map kD)))
  | _ => .fail
section
variable {G : GC} {C : Cf} {H : Hp}
theorem repKs : ∀ ks : List Key, RepL G C H (ks.map kV) (ks.map kD)
  | [] => .nil
  | k :: ks => .cons (by cases k; exact .int _; exact .str _) (repKs ks)
theorem repIsKeys {C' : Cf} : ∀ {vs : List (List Key × V)} {ds : List (List Key × D)} {bs : List Addr}, RepT G C' H vs ds → IsKeys H vs bs → RepL G C H (bs.map V.ref) (ds.map fun kv => .tup (kv.1.map kD))
  | _, _, _, .nil, q => by cases q; exact .nil
  | _, _, _, .cons _ l, q => by
    cases q with
    | cons h t => exact .cons (.tup h (repKs _)) (repIsKeys l t)
end
section
variable {X : Cx} {G : GC} {W : WX} {b : Bool} {e : Expr} {m : Env → T D} {p pos : Pos}
theorem s_listT (hc : X.calm = true) (hg : Gl X "list") (hm : X.mg "list" = none) (ha : PE X e (tQ G W b m)) (hs : starEach [e] X.env = (false, eval e X.env) :: starEach [] X.env := by rfl) (hpl : (backTo pos (starEach [] X.env)).any (·.1) = false := by rfl) :
    PE X (.Call (.Name "list" p) [e] [] pos) (tQ G W false (qN listTF (aCons m aNil))) := by
  refine s_callTy (call_list_dT hc) (fun σ env us C n H vs ds Q r h => ?_) hg hm (by decide +kernel) (a_cons ha a_nil hs) (by decide) (by decide) hs hpl
  cases r with
  | nil => exact h.no.elim
  | cons r1 r2 =>
    cases r2 with
    | cons _ _ => cases r1 <;> exact h.no.elim
    | nil =>
      cases r1 <;> try exact h.no.elim
      case dT q vs ds f hq l =>
        exact ⟨q, vs, rfl, .inl hq, fun p bs hp hb => h.newL (repIsKeys l hb) hp⟩
end
/-! ### sorted(x), x a list of pairs of ints -/
def insP (y : Int × Int) : List (Int × Int) → List (Int × Int)
  | [] => [y]
  | x :: l => if SrtO.lexB x y then x :: insP y l else y :: x :: l
def sortP : List (Int × Int) → List (Int × Int)
  | [] => []
  | y :: l => insP y (sortP l)
theorem lexB_swo : SrtO.Swo SrtO.lexB := by
  refine ⟨fun x y h => ?_, fun x y z h1 h2 => ?_⟩
  · have a := SrtO.lexB_iff.mp h
    refine SrtO.lexB_no.mpr ?_
    omega
  · have a := SrtO.lexB_no.mp h1
    have b := SrtO.lexB_no.mp h2
    refine SrtO.lexB_no.mpr ?_
    omega
theorem insP_mem {y z : Int × Int} : ∀ {l : List (Int × Int)}, z ∈ insP y l → z = y ∨ z ∈ l
  | [], h => .inl (List.mem_singleton.mp h)
  | x :: l, h => by
    unfold insP at h
    split at h
    · rcases List.mem_cons.mp h with h | h
      · exact .inr (by rw [h]; exact List.mem_cons_self ..)
      · exact (insP_mem h).elim .inl fun q => .inr (List.mem_cons_of_mem _ q)
    · rcases List.mem_cons.mp h with h | h
      · exact .inl h
      · exact .inr h
theorem insP_srtd {y : Int × Int} : ∀ {l : List (Int × Int)}, SrtO.Srtd SrtO.lexB l → SrtO.Srtd SrtO.lexB (insP y l)
  | [], _ => SrtO.srtd_one _
  | x :: l, h => by
    have hx := SrtO.srtd_head h
    have ht := (List.pairwise_cons.mp h).2
    unfold insP
    split
    · rename_i q
      refine List.pairwise_cons.mpr ⟨fun z hz => ?_, insP_srtd ht⟩
      rcases insP_mem hz with rfl | hz
      · exact lexB_swo.1 _ _ q
      · exact hx z hz
    · rename_i q
      have q : SrtO.lexB x y = false := by simpa using q
      refine List.pairwise_cons.mpr ⟨fun z hz => ?_, h⟩
      rcases List.mem_cons.mp hz with rfl | hz
      · exact q
      · exact lexB_swo.2 _ _ _ q (hx z hz)
theorem insP_stb {y : Int × Int} : ∀ {l : List (Int × Int)}, SrtO.Stb SrtO.lexB (insP y l) (y :: l)
  | [] => SrtO.Stb.refl _
  | x :: l => by
    unfold insP
    split
    · rename_i q
      have a : SrtO.Stb SrtO.lexB ([x] ++ insP y l) ([x] ++ (y :: l)) := (SrtO.Stb.refl [x]).app insP_stb
      have b : SrtO.Stb SrtO.lexB ([x] ++ [y] ++ l) ([y] ++ [x] ++ l) := (SrtO.Stb.swap lexB_swo (A := [x]) (B := [y]) fun a ha b hb => by rw [List.mem_singleton.mp ha, List.mem_singleton.mp hb]; exact q).app (SrtO.Stb.refl l)
      exact a.trans b
    · exact SrtO.Stb.refl _
theorem sortP_ok : ∀ l : List (Int × Int), SrtO.Srtd SrtO.lexB (sortP l) ∧ SrtO.Stb SrtO.lexB (sortP l) l
  | [] => ⟨List.Pairwise.nil, SrtO.Stb.refl _⟩
  | y :: l => ⟨insP_srtd (sortP_ok l).1, insP_stb.trans ((SrtO.Stb.refl [y]).app (sortP_ok l).2)⟩
def prD : D → Option (Int × Int)
  | .tup [.int i, .int j] => some (i, j)
  | _ => none
def prsD : List D → Option (List (Int × Int))
  | [] => some []
  | d :: ds => match prD d, prsD ds with
    | some k, some ks => some (k :: ks)
    | _, _ => none
def pairD (p : Int × Int) : D := .tup [.int p.1, .int p.2]
def sortedF : List D → T D
  | [.lst xs] => (match prsD xs with
    | some l => .ret (.lst ((sortP l).map pairD))
    | none => .fail)
  | _ => .fail
theorem prD_eq {d : D} {k : Int × Int} (e : prD d = some k) : d = pairD k := by
  unfold prD at e
  split at e
  · cases e; rfl
  · cases e
section
variable {G : GC} {C : Cf} {H : Hp}
/-- the pair of ints at a place -/
noncomputable def prV (H : Hp) : V → Int × Int
  | .ref t => (match H t with
    | some (.tup [.int i, .int j]) => (i, j)
    | _ => (0, 0))
  | _ => (0, 0)
theorem rep_pr {v : V} {k : Int × Int} (r : Rep G C H v (pairD k)) : ∃ t, v = V.ref t ∧ H t = some (.tup [.int k.1, .int k.2]) ∧ prV H v = k := by
  unfold pairD at r
  cases r with
  | tup h l =>
    cases l with
    | cons a l =>
      cases l with
      | cons b l =>
        cases l
        cases a
        cases b
        exact ⟨_, rfl, h, by simp only [prV, h]⟩
theorem repL_prs : ∀ {vs : List V} {ds : List D} {l : List (Int × Int)}, RepL G C H vs ds → prsD ds = some l → (∀ x ∈ vs, ∃ t, x = V.ref t ∧ H t = some (.tup [.int (prV H x).1, .int (prV H x).2])) ∧ vs.map (prV H) = l
  | _, _, _, .nil, e => by cases e; exact ⟨fun _ h => (nomatch h), rfl⟩
  | v :: vs, d :: ds, l, .cons r t, e => by
    have e : (match prD d, prsD ds with | some k, some ks => some (k :: ks) | _, _ => none) = some l := e
    cases q1 : prD d with
    | none => rw [q1] at e; cases e
    | some a =>
      cases q2 : prsD ds with
      | none => rw [q1, q2] at e; cases e
      | some b =>
        rw [q1, q2] at e
        cases e
        obtain ⟨h1, h2⟩ := repL_prs t q2
        rw [prD_eq q1] at r
        obtain ⟨p, ep, hp, hk⟩ := rep_pr r
        refine ⟨fun x hx => ?_, by rw [List.map_cons, hk, h2]⟩
        rcases List.mem_cons.mp hx with rfl | hx
        · exact ⟨p, ep, by rw [hk]; exact hp⟩
        · exact h1 x hx
theorem repL_of_pr : ∀ {ys : List V}, (∀ x ∈ ys, ∃ t, x = V.ref t ∧ H t = some (.tup [.int (prV H x).1, .int (prV H x).2])) → RepL G C H ys ((ys.map (prV H)).map pairD)
  | [], _ => .nil
  | y :: ys, h => by
    obtain ⟨t, e, ht⟩ := h y (List.mem_cons_self ..)
    rw [List.map_cons, List.map_cons]
    refine .cons ?_ (repL_of_pr fun x hx => h x (List.mem_cons_of_mem _ hx))
    generalize prV H y = k at ht
    rw [e]
    exact .tup ht (.cons (.int _) (.cons (.int _) .nil))
end
section
variable {X : Cx} {G : GC} {W : WX} {b : Bool} {e : Expr} {m : Env → T D} {p pos : Pos}
theorem s_sortedP (hk : X.K = G.K) (hg : Gl X "sorted") (hm : X.mg "sorted" = none) (ha : PE X e (tQ G W b m)) (hs : starEach [e] X.env = (false, eval e X.env) :: starEach [] X.env := by rfl) (hpl : (backTo pos (starEach [] X.env)).any (·.1) = false := by rfl) :
    PE X (.Call (.Name "sorted" p) [e] [] pos) (tQ G W false (qN sortedF (aCons m aNil))) := by
  refine s_callB cr_sortedPO (fun σ env us C n H vs ds Q r h => ?_) hg hm (by decide +kernel) (a_cons ha a_nil hs) (by decide) (by decide) hs hpl
  cases r with
  | nil => exact h.no.elim
  | cons r1 r2 =>
    cases r2 with
    | cons _ _ => cases r1 <;> exact h.no.elim
    | nil =>
      cases r1 <;> try exact h.no.elim
      case lst q vs ds f hq l =>
        have h : At G W (rV G false) σ env us C n H (match prsD ds with
          | some l => .ret (.lst ((sortP l).map pairD))
          | none => .fail) Q := h
        cases q1 : prsD ds with
        | none => rw [q1] at h; exact h.no.elim
        | some ks =>
          rw [q1] at h
          obtain ⟨h1, h2⟩ := repL_prs l q1
          refine ⟨q, vs, prV H, rfl, SqL.of hq, h1, fun ys p y1 y2 hp => ?_⟩
          have hy : ∀ x ∈ ys, ∃ t, x = V.ref t ∧ H t = some (.tup [.int (prV H x).1, .int (prV H x).2]) := fun x hx => h1 x (y2.perm.mem_iff.mp hx)
          have e3 : ys.map (prV H) = sortP ks := by
            obtain ⟨s1, s2⟩ := sortP_ok ks
            refine SrtO.stb_uniq lexB_swo (SrtO.srtd_map y1) s1 ((SrtO.Stb.map lexB_swo (prV H) y2).trans ?_)
            rw [h2]
            exact ⟨s2.perm.symm, fun x => (s2.cls x).symm⟩
          have r := repL_of_pr (G := G) (C := C) hy
          rw [e3] at r
          exact h.newL r hp
end
/-! ### a, b, c, d = .. -/
def parO4 (i1 i2 i3 i4 : Nat) (m1 m2 m3 m4 : Env → T O) : Env → T Fl := exS (fun env => (m1 env).bind fun x1 => (m2 env).bind fun x2 => (m3 env).bind fun x3 => (m4 env).bind fun x4 => .ret (x1, x2, x3, x4)) fun p env => .ret (.nx ((((env.set i1 (some p.1)).set i2 (some p.2.1)).set i3 (some p.2.2.1)).set i4 (some p.2.2.2)))
section
variable {X : Cx} {G : GC} {W : WX} {m1 m2 m3 m4 : Env → T O} {a1 a2 a3 a4 : Expr} {pos : Pos}
theorem st_tup4O {i1 i2 i3 i4 : Nat} {t1 t2 t3 t4 : Expr} {pt : Pos} {kt k2 pt2} (g1 : PG X t1 (gName i1)) (g2 : PG X t2 (gName i2)) (g3 : PG X t3 (gName i3)) (g4 : PG X t4 (gName i4)) (hc : X.calm = true) (h1 : PE X a1 (tN G W m1)) (h2 : PE X a2 (tN G W m2)) (h3 : PE X a3 (tN G W m3)) (h4 : PE X a4 (tN G W m4))
    (hs : swapsWithSole [.Tuple [t1, t2, t3, t4] kt pt] (.Tuple [a1, a2, a3, a4] k2 pt2) pos.line X.env = pure false := by rfl) (hw : swappedStores [.Tuple [t1, t2, t3, t4] kt pt] (.Tuple [a1, a2, a3, a4] k2 pt2) X.env = pure none := by rfl) (ht : (assignEach [.Tuple [t1, t2, t3, t4] kt pt] X.env).map (·.2) = [assign (.Tuple [t1, t2, t3, t4] kt pt) X.env] := by rfl)
    (hs1 : starEach [a1, a2, a3, a4] X.env = (false, eval a1 X.env) :: starEach [a2, a3, a4] X.env := by rfl) (hs2 : starEach [a2, a3, a4] X.env = (false, eval a2 X.env) :: starEach [a3, a4] X.env := by rfl) (hs3 : starEach [a3, a4] X.env = (false, eval a3 X.env) :: starEach [a4] X.env := by rfl) (hs4 : starEach [a4] X.env = (false, eval a4 X.env) :: starEach [] X.env := by rfl)
    (e1 : (assignEach [t1, t2, t3, t4] X.env).map (·.2) = assign t1 X.env :: (assignEach [t2, t3, t4] X.env).map (·.2) := by rfl) (e2 : (assignEach [t2, t3, t4] X.env).map (·.2) = assign t2 X.env :: (assignEach [t3, t4] X.env).map (·.2) := by rfl) (e3 : (assignEach [t3, t4] X.env).map (·.2) = assign t3 X.env :: (assignEach [t4] X.env).map (·.2) := by rfl) (e4 : (assignEach [t4] X.env).map (·.2) = assign t4 X.env :: (assignEach [] X.env).map (·.2) := by rfl)
    (hn : (assignEach [t1, t2, t3, t4] X.env).length = 4 := by rfl) (hst : (assignEach [t1, t2, t3, t4] X.env).findIdx? (·.1) = none := by rfl) :
    PS X (.Assign [.Tuple [t1, t2, t3, t4] kt pt] (.Tuple [a1, a2, a3, a4] k2 pt2) pos) (tS G W (parO4 i1 i2 i3 i4 m1 m2 m3 m4)) := by
  refine PS.imp (ps_asg (pe_tup (pa_cons h1 (pa_cons h2 (pa_cons h3 (pa_cons h4 pa_nil hs4) hs3) hs2) hs1)) (pg_tup hc (gn_cons g1 (gn_cons g2 (gn_cons g3 (gn_cons g4 gn_nil e4) e3) e2) e1) hn hst) hs hw ht) fun E σ H0 h => ?_
  obtain ⟨C0, n0, env, us, h⟩ := h
  have k0 := h.ok
  refine ⟨C0, n0, env, us, h.ok, T.wp_mono (T.wp_bind (T.wp_bindX h.wp)) ?_ ?_⟩
  · intro o1 n1 _ z1 C1 H1 v1 s1 w1 r1
    have k1 := k0.q s1 w1
    refine ⟨C1, n1, env, us, k1, T.wp_mono (T.wp_bind z1) ?_ ?_⟩
    · intro o2 n2 _ z2 C2 H2 v2 s2 w2 r2
      have k2 := k1.q s2 w2
      refine ⟨C2, n2, env, us, k2, T.wp_mono (T.wp_bind z2) ?_ ?_⟩
      · intro o3 n3 _ z3 C3 H3 v3 s3 w3 r3
        have k3 := k2.q s3 w3
        refine ⟨C3, n3, env, us, k3, T.wp_mono (T.wp_bind z3) ?_ ?_⟩
        · intro o4 n4 _ z4 C4 H4 v4 s4 w4 r4
          have k4 := k3.q s4 w4
          refine ⟨by show 4 ≤ sizeLine; rw [sizeLine_eq]; decide, fun p hp => ⟨p, [v1, v2, v3, v4], rfl, SqT.of upd_same, rfl, rfl, ?_⟩⟩
          have s5 := step_tup (C := C4) (o := .tup [v1, v2, v3, v4]) hp
          have w5 : Wf G C4 n4 (upd H4 p (.tup [v1, v2, v3, v4])) := w4.tup hp
          have k5 := k4.q s5 w5
          obtain ⟨us1, ro1, nd1, hu1⟩ := r1
          obtain ⟨us2, ro2, nd2, hu2⟩ := r2
          obtain ⟨us3, ro3, nd3, hu3⟩ := r3
          obtain ⟨us4, ro4, nd4, hu4⟩ := r4
          obtain ⟨p1_2, q1_2⟩ := keepN s2 ro1 (fun a m => ⟨(hu1 a m).1, (hu1 a m).2.1, (hu1 a m).2.2.2⟩)
          obtain ⟨p1_3, q1_3⟩ := keepN s3 p1_2 q1_2
          obtain ⟨p1_4, q1_4⟩ := keepN s4 p1_3 q1_3
          obtain ⟨p1_5, q1_5⟩ := keepN s5 p1_4 q1_4
          obtain ⟨p2_3, q2_3⟩ := keepN s3 ro2 (fun a m => ⟨(hu2 a m).1, (hu2 a m).2.1, (hu2 a m).2.2.2⟩)
          obtain ⟨p2_4, q2_4⟩ := keepN s4 p2_3 q2_3
          obtain ⟨p2_5, q2_5⟩ := keepN s5 p2_4 q2_4
          obtain ⟨p3_4, q3_4⟩ := keepN s4 ro3 (fun a m => ⟨(hu3 a m).1, (hu3 a m).2.1, (hu3 a m).2.2.2⟩)
          obtain ⟨p3_5, q3_5⟩ := keepN s5 p3_4 q3_4
          obtain ⟨p4_5, q4_5⟩ := keepN s5 ro4 (fun a m => ⟨(hu4 a m).1, (hu4 a m).2.1, (hu4 a m).2.2.2⟩)
          have no1 : ∀ a ∈ us1, a ∉ us := fun a m z => by
            obtain ⟨_, _, u, e, _⟩ := k0.us a z
            rw [(hu1 a m).2.2.1] at e; cases e
          obtain ⟨ua1, ka1, ha1⟩ := k5.putO p1_5 nd1 (fun a m => ⟨(q1_5 a m).1, (q1_5 a m).2.1, no1 a m, (q1_5 a m).2.2⟩) i1
          have no2 : ∀ a ∈ us2, a ∉ ua1 := fun a m z => by
            have e0 := (hu2 a m).2.2.1
            rcases ha1 a z with y | y
            · obtain ⟨_, _, _, u, e, _⟩ := hu1 a y; rw [e0] at e; cases e
            obtain ⟨_, _, u, e, _⟩ := k1.us a y; rw [e0] at e; cases e
          obtain ⟨ua2, ka2, ha2⟩ := ka1.putO p2_5 nd2 (fun a m => ⟨(q2_5 a m).1, (q2_5 a m).2.1, no2 a m, (q2_5 a m).2.2⟩) i2
          have no3 : ∀ a ∈ us3, a ∉ ua2 := fun a m z => by
            have e0 := (hu3 a m).2.2.1
            rcases ha2 a z with y | y
            · obtain ⟨_, _, _, u, e, _⟩ := hu2 a y; rw [e0] at e; cases e
            rcases ha1 a y with y | y
            · obtain ⟨_, _, u, e, _⟩ := q1_2 a y; rw [e0] at e; cases e
            obtain ⟨_, _, u, e, _⟩ := k2.us a y; rw [e0] at e; cases e
          obtain ⟨ua3, ka3, ha3⟩ := ka2.putO p3_5 nd3 (fun a m => ⟨(q3_5 a m).1, (q3_5 a m).2.1, no3 a m, (q3_5 a m).2.2⟩) i3
          have no4 : ∀ a ∈ us4, a ∉ ua3 := fun a m z => by
            have e0 := (hu4 a m).2.2.1
            rcases ha3 a z with y | y
            · obtain ⟨_, _, _, u, e, _⟩ := hu3 a y; rw [e0] at e; cases e
            rcases ha2 a y with y | y
            · obtain ⟨_, _, u, e, _⟩ := q2_3 a y; rw [e0] at e; cases e
            rcases ha1 a y with y | y
            · obtain ⟨_, _, u, e, _⟩ := q1_3 a y; rw [e0] at e; cases e
            obtain ⟨_, _, u, e, _⟩ := k3.us a y; rw [e0] at e; cases e
          obtain ⟨ua4, ka4, ha4⟩ := ka3.putO p4_5 nd4 (fun a m => ⟨(q4_5 a m).1, (q4_5 a m).2.1, no4 a m, (q4_5 a m).2.2⟩) i4
          refine z4 C4 _ ua4 (((((s1.trans s2 (by simp)).trans s3 (by simp)).trans s4 (by simp)).trans s5 (by simp)).up (by simp)) (fun a m => ?_) _ ka4
          rcases ha4 a m with y | y
          · exact .inr (s1.back (s2.back (s3.back (hu4 a y).2.2.1)))
          rcases ha3 a y with y | y
          · exact .inr (s1.back (s2.back (hu3 a y).2.2.1))
          rcases ha2 a y with y | y
          · exact .inr (s1.back (hu2 a y).2.2.1)
          rcases ha1 a y with y | y
          · exact .inr (hu1 a y).2.2.1
          exact .inl y
        · intro e4 n4 _ z4 C4 H4 cls dx s4 w4 rx
          exact z4 C4 H4 us ((((s1.trans s2 (by simp)).trans s3 (by simp)).trans s4 (by simp)).up (by simp)) (fun a m => .inl m) σ cls dx (k3.q s4 w4) rx
      · intro e3 n3 _ z3 C3 H3 cls dx s3 w3 rx
        exact z3 C3 H3 us (((s1.trans s2 (by simp)).trans s3 (by simp)).up (by simp)) (fun a m => .inl m) σ cls dx (k2.q s3 w3) rx
    · intro e2 n2 _ z2 C2 H2 cls dx s2 w2 rx
      exact z2 C2 H2 us ((s1.trans s2 (by simp)).up (by simp)) (fun a m => .inl m) σ cls dx (k1.q s2 w2) rx
  · intro e1 n1 _ z1 C1 H1 cls dx s1 w1 rx
    exact z1 C1 H1 us (s1.up (by simp)) (fun a m => .inl m) σ cls dx (k0.q s1 w1) rx
end
end Pu
set_option Elab.async false
set_option linter.all false
set_option maxRecDepth 100000
set_option maxHeartbeats 4000000
/-! what a run is asked, by equations (for simp) -/
namespace Pu
open PySem L2 Stp NdefX LamX
open PyProof.Rows hiding St
/-- T.wp, never unfolded by whnf -/
structure Wp {α : Type} (t : T α) (n : Nat) (Q : α → Nat → Prop) (E : D → Nat → Prop) : Prop where
  h : t.wp n Q E
section
variable {α β : Type} {n : Nat} {Q : α → Nat → Prop} {R : β → Nat → Prop} {E : D → Nat → Prop}
theorem Wp.mono {Q' : α → Nat → Prop} {E' : D → Nat → Prop} {t : T α} (h : Wp t n Q E) (hq : ∀ a m, n ≤ m → Q a m → Q' a m) (he : ∀ e m, n ≤ m → E e m → E' e m) : Wp t n Q' E' := ⟨T.wp_mono h.h hq he⟩
theorem wp_ret {a : α} : Wp (.ret a) n Q E ↔ Q a n := ⟨fun h => h.h, fun h => ⟨h⟩⟩
theorem wp_ex {e : D} : Wp (.ex e : T α) n Q E ↔ E e n := ⟨fun h => h.h, fun h => ⟨h⟩⟩
theorem wp_fail : Wp (.fail : T α) n Q E ↔ False := ⟨fun h => h.h, fun h => h.elim⟩
theorem wp_bd {t : T α} {f : α → T β} : Wp (t.bind f) n R E ↔ Wp t n (fun a m => Wp (f a) m R E) E := ⟨fun h => ⟨T.wp_mono (T.wp_bind h.h) (fun _ _ _ z => ⟨z⟩) (fun _ _ _ z => z)⟩, fun h => ⟨T.bind_wp (T.wp_mono h.h (fun _ _ _ z => z.h) (fun _ _ _ z => z))⟩⟩
theorem wp_bx {t : T α} {f : α → T β} {g : D → T β} : Wp (t.bindX f g) n R E ↔ Wp t n (fun a m => Wp (f a) m R E) (fun e m => Wp (g e) m R E) := ⟨fun h => ⟨T.wp_mono (T.wp_bindX h.h) (fun _ _ _ z => ⟨z⟩) (fun _ _ _ z => ⟨z⟩)⟩, fun h => ⟨T.bindX_wp (T.wp_mono h.h (fun _ _ _ z => z.h) (fun _ _ _ z => z.h))⟩⟩
theorem wp_draw {u : Nat} {k : Nat → T α} : Wp (.draw u k) n Q E ↔ 0 < u ∧ u < 1073741824 ∧ n < T.cap ∧ ∀ d, d < u → Wp (k d) (n + 1) Q E := ⟨fun h => ⟨h.h.1, h.h.2.1, h.h.2.2.1, fun d hd => ⟨h.h.2.2.2 d hd⟩⟩, fun h => ⟨⟨h.1, h.2.1, h.2.2.1, fun d hd => (h.2.2.2 d hd).h⟩⟩⟩
theorem wp_grd {c : Prop} [Decidable c] {t : T α} : Wp (grd c t) n Q E ↔ c ∧ Wp t n Q E := by
  unfold grd
  by_cases hc : c
  · rw [if_pos hc]; exact ⟨fun h => ⟨hc, h⟩, fun h => h.2⟩
  · rw [if_neg hc]; exact ⟨fun h => h.h.elim, fun h => (hc h.1).elim⟩
theorem noX_wp : ∀ {t : T α} {n : Nat}, t.wp n Q (fun _ _ => False) → t.noX.wp n Q E
  | .ret _, _, h => h
  | .ex _, _, h => h.elim
  | .draw _ _, _, h => ⟨h.1, h.2.1, h.2.2.1, fun d hd => noX_wp (h.2.2.2 d hd)⟩
  | .fail, _, h => h.elim
theorem wp_nox {t : T α} : Wp t.noX n Q E ↔ Wp t n Q (fun _ _ => False) := ⟨fun h => ⟨T.wp_noX h.h⟩, fun h => ⟨noX_wp h.h⟩⟩
theorem wp_ite {c : Prop} [Decidable c] {t s : T α} : Wp (if c then t else s) n Q E ↔ (c → Wp t n Q E) ∧ (¬ c → Wp s n Q E) := by
  by_cases hc : c
  · rw [if_pos hc]; exact ⟨fun h => ⟨fun _ => h, fun z => absurd hc z⟩, fun h => h.1 hc⟩
  · rw [if_neg hc]; exact ⟨fun h => ⟨fun z => absurd z hc, fun _ => h⟩, fun h => h.2 hc⟩
end
/-! combinators -/
section
variable {env : Env}
@[simp] theorem seqS_def {m k : Env → T Fl} : seqS m k env = (m env).bind fun r => match r with
  | .nx env' => k env'
  | r => .ret r := (rfl)
@[simp] theorem runF_def {N : Nat} {m : Env → T Fl} {ds : List D} : runF N m ds = (m (startE N ds)).noX.bind endF := (rfl)
@[simp] theorem qN_def {f : List D → T D} {m : Env → T (List D)} : qN f m env = (m env).bind f := (rfl)
@[simp] theorem q1_def {f : D → T D} {m : Env → T D} : q1 f m env = (m env).bind f := (rfl)
@[simp] theorem q2_def {f : D → D → T D} {m k : Env → T D} : q2 f m k env = (m env).bind fun d => (k env).bind fun e => f d e := (rfl)
@[simp] theorem qC_def {d : D} : qC d env = .ret d := (rfl)
@[simp] theorem aNil_def : aNil env = .ret [] := (rfl)
@[simp] theorem aCons_def {m : Env → T D} {k : Env → T (List D)} : aCons m k env = (m env).bind fun d => (k env).bind fun ds => .ret (d :: ds) := (rfl)
@[simp] theorem retS_def {m : Env → T D} : retS m env = (m env).bindX (fun d => .ret (.rt d)) fun e => .ret (.ex e env) := (rfl)
@[simp] theorem asgS_def {i : Nat} {m : Env → T D} : asgS i m env = (m env).bindX (fun d => .ret (.nx (env.set i (some (.fz d))))) fun e => .ret (.ex e env) := (rfl)
@[simp] theorem asgO_def {i : Nat} {m : Env → T O} : asgO i m env = (m env).bindX (fun o => .ret (.nx (env.set i (some o)))) fun e => .ret (.ex e env) := (rfl)
@[simp] theorem dropS_def {m : Env → T D} : dropS m env = (m env).bindX (fun _ => .ret (.nx env)) fun e => .ret (.ex e env) := (rfl)
@[simp] theorem ifS_def {t : Env → T Bool} {m k : Env → T Fl} : ifS t m k env = (t env).bindX (fun b => if b = true then m env else k env) fun e => .ret (.ex e env) := (rfl)
@[simp] theorem forS_def {it : Env → T (List D)} {pt : Pt} {m : Env → T Fl} : forS it pt m env = (it env).bindX (fun ds => forL pt m ds env) fun e => .ret (.ex e env) := (rfl)
@[simp] theorem qComp_def {it : Env → T (List D)} {pt : Pt} {own : List Nat} {tt : Env → T Bool} {me : Env → T D} : qComp it pt own tt me env = (it env).bind fun ds => grd (ds.length ≤ big) ((compL pt (wipeE env own) tt me ds).bind fun r => .ret (.lst r)) := by
  unfold qComp qCompR
  rw [T.bind_assoc]
  congr 1
  funext ds
  unfold grd
  split
  · rfl
  · rfl
theorem drawF_def {u : Int} : drawF [.pen, .int u] = if 0 < u ∧ u < 1073741824 then .draw u.toNat fun d => .ret (.int d) else .fail := rfl
end
@[simp] theorem rng1_def {m : Env → T D} {env : Env} : rng1 m env = (m env).bind fun d => match d with
  | .int j => grd (-4611686018427387904 ≤ j ∧ j < 4611686018427387904) (.ret (rngL 0 j.toNat))
  | _ => .fail := (rfl)
@[simp] theorem qVar_def {i : Nat} {env : Env} : qVar i env = match env[i]? with
  | some (some (.fz d)) => .ret d
  | _ => .fail := (rfl)
/-- a comprehension whose elements all are R -/
theorem wp_compL {pt : Pt} {env : Env} {me : Env → T D} {R : D → Prop} {k : Nat} {E : D → Nat → Prop} : ∀ {ds : List D} {n : Nat}, n + k * ds.length ≤ T.cap →
    (∀ d ∈ ds, ∃ env', putP pt d env = some env' ∧ ∀ n, n + k ≤ T.cap → Wp (me env') n (fun y m => R y ∧ m ≤ n + k) (fun _ _ => False)) →
    Wp (compL pt env (fun _ => .ret true) me ds) n (fun r m => r.length = ds.length ∧ (∀ y ∈ r, R y) ∧ m ≤ n + k * ds.length) E
  | [], n, _, _ => ⟨⟨rfl, fun _ m => absurd m (by simp), Nat.le_add_right ..⟩⟩
  | d :: ds, n, hn, h => by
    rw [List.length_cons, Nat.mul_succ] at hn
    obtain ⟨env', e, he⟩ := h d (List.mem_cons_self ..)
    unfold compL
    rw [e]
    dsimp only
    rw [wp_bd, wp_nox, wp_ret, if_pos rfl, wp_bd, wp_nox]
    refine (he n (by omega)).mono (fun y m _ z => ?_) (fun _ _ _ z => z.elim)
    rw [wp_bd]
    refine (wp_compL (n := m) (by have := z.2; omega) fun d md => h d (List.mem_cons_of_mem _ md)).mono (fun r m2 _ z2 => ?_) (fun _ _ _ z => z)
    rw [wp_ret]
    refine ⟨by simp [z2.1], fun x mx => ?_, ?_⟩
    · rcases List.mem_cons.mp mx with e | mx
      · rw [e]; exact z.1
      · exact z2.2.1 x mx
    · rw [List.length_cons, Nat.mul_succ]
      have := z.2; have := z2.2.2
      omega
/-- a loop by its invariant -/
theorem wp_forL {pt : Pt} {m : Env → T Fl} {k : Nat} {E : D → Nat → Prop} : ∀ {ds : List D} (I : Nat → Env → Prop) {env : Env} {n : Nat}, I 0 env → n + k * ds.length ≤ T.cap →
    (∀ j d env, ds[j]? = some d → I j env → ∃ env', putP pt d env = some env' ∧ ∀ n, n + k ≤ T.cap → Wp (m env') n (fun r n' => (∃ e, (r = .nx e ∨ r = .ct e) ∧ I (j + 1) e) ∧ n' ≤ n + k) (fun _ _ => False)) →
    Wp (forL pt m ds env) n (fun r n' => (∃ e, r = .nx e ∧ I ds.length e) ∧ n' ≤ n + k * ds.length) E
  | [], I, env, n, h0, _, _ => ⟨⟨⟨env, rfl, h0⟩, Nat.le_add_right ..⟩⟩
  | d :: ds, I, env, n, h0, hn, h => by
    rw [List.length_cons, Nat.mul_succ] at hn
    obtain ⟨env', e, he⟩ := h 0 d env rfl h0
    unfold forL
    rw [e]
    dsimp only
    rw [wp_bd]
    refine (he n (by omega)).mono (fun r n' _ z => ?_) (fun _ _ _ z => z.elim)
    obtain ⟨⟨e2, hr, i1⟩, hn'⟩ := z
    have ih := wp_forL (E := E) (ds := ds) (pt := pt) (m := m) (k := k) (fun j => I (j + 1)) (env := e2) (n := n') i1 (by omega) fun j d env ej ij => h (j + 1) d env (by simpa using ej) ij
    have fin : Wp (forL pt m ds e2) n' (fun r n' => (∃ e, r = .nx e ∧ I (d :: ds).length e) ∧ n' ≤ n + k * (d :: ds).length) E := ih.mono (fun r n2 _ z => ⟨z.1, by rw [List.length_cons, Nat.mul_succ]; have := z.2; omega⟩) (fun _ _ _ z => z)
    rcases hr with rfl | rfl <;> exact fin
end Pu
set_option Elab.async false
set_option linter.all false
set_option maxRecDepth 100000
set_option maxHeartbeats 4000000
/-! what a run is asked, with what is left of the draws -/
namespace Pu
open PySem L2 Stp NdefX LamX
open PyProof.Rows hiding St
/-- t ends with Q j a or E j e, j draws being left of k -/
structure Wb {α : Type} (k : Nat) (t : T α) (Q : Nat → α → Prop) (E : Nat → D → Prop) : Prop where
  h : ∀ n, n + k ≤ T.cap → t.wp n (fun a m => ∃ j, m + j ≤ n + k ∧ Q j a) (fun e m => ∃ j, m + j ≤ n + k ∧ E j e)
abbrev XF : Nat → D → Prop := fun _ _ => False
section
variable {α β : Type} {k : Nat} {Q : Nat → α → Prop} {R : Nat → β → Prop} {E F : Nat → D → Prop}
theorem wb_ret {a : α} (h : Q k a) : Wb k (.ret a) Q E := ⟨fun n _ => ⟨k, Nat.le_refl _, h⟩⟩
theorem wb_ex {e : D} (h : E k e) : Wb k (.ex e : T α) Q E := ⟨fun n _ => ⟨k, Nat.le_refl _, h⟩⟩
theorem Wb.mono {t : T α} {Q' : Nat → α → Prop} {E' : Nat → D → Prop} (h : Wb k t Q E) (hq : ∀ j a, j ≤ k → Q j a → Q' j a) (he : ∀ j e, j ≤ k → E j e → E' j e) : Wb k t Q' E' :=
  ⟨fun n hn => T.wp_mono (h.h n hn) (fun a m l z => by obtain ⟨j, z1, z2⟩ := z; exact ⟨j, z1, hq j a (by omega) z2⟩) (fun a m l z => by obtain ⟨j, z1, z2⟩ := z; exact ⟨j, z1, he j a (by omega) z2⟩)⟩
theorem wb_bind {t : T α} {f : α → T β} (h : Wb k t (fun j a => Wb j (f a) R E) E) : Wb k (t.bind f) R E :=
  ⟨fun n hn => T.bind_wp (T.wp_mono (h.h n hn) (fun a m l z => by
      obtain ⟨j, z1, z2⟩ := z
      exact T.wp_mono (z2.h m (by omega)) (fun b m2 _ y => by obtain ⟨i, y1, y2⟩ := y; exact ⟨i, by omega, y2⟩) (fun b m2 _ y => by obtain ⟨i, y1, y2⟩ := y; exact ⟨i, by omega, y2⟩)) (fun _ _ _ z => z))⟩
theorem wb_bindX {t : T α} {f : α → T β} {g : D → T β} (h : Wb k t (fun j a => Wb j (f a) R E) (fun j e => Wb j (g e) R E)) : Wb k (t.bindX f g) R E :=
  ⟨fun n hn => T.bindX_wp (T.wp_mono (h.h n hn) (fun a m l z => by
      obtain ⟨j, z1, z2⟩ := z
      exact T.wp_mono (z2.h m (by omega)) (fun b m2 _ y => by obtain ⟨i, y1, y2⟩ := y; exact ⟨i, by omega, y2⟩) (fun b m2 _ y => by obtain ⟨i, y1, y2⟩ := y; exact ⟨i, by omega, y2⟩))
    (fun a m l z => by
      obtain ⟨j, z1, z2⟩ := z
      exact T.wp_mono (z2.h m (by omega)) (fun b m2 _ y => by obtain ⟨i, y1, y2⟩ := y; exact ⟨i, by omega, y2⟩) (fun b m2 _ y => by obtain ⟨i, y1, y2⟩ := y; exact ⟨i, by omega, y2⟩)))⟩
theorem wb_draw {u : Nat} {f : Nat → T α} (hk : 0 < k) (h0 : 0 < u) (h1 : u < 1073741824) (h : ∀ d, d < u → Wb (k - 1) (f d) Q E) : Wb k (.draw u f) Q E :=
  ⟨fun n hn => ⟨h0, h1, by omega, fun d hd => T.wp_mono ((h d hd).h (n + 1) (by omega)) (fun b m2 _ y => by obtain ⟨i, y1, y2⟩ := y; exact ⟨i, by omega, y2⟩) (fun b m2 _ y => by obtain ⟨i, y1, y2⟩ := y; exact ⟨i, by omega, y2⟩)⟩⟩
theorem wb_nox {t : T α} (h : Wb k t Q XF) : Wb k t.noX Q E := ⟨fun n hn => noX_wp (T.wp_mono (h.h n hn) (fun _ _ _ z => z) (fun _ _ _ z => by obtain ⟨_, _, z⟩ := z; exact z))⟩
theorem wb_grd {c : Prop} [Decidable c] {t : T α} (hc : c) (h : Wb k t Q E) : Wb k (grd c t) Q E := by
  unfold grd
  rw [if_pos hc]
  exact h
theorem wb_ite {c : Prop} [Decidable c] {t s : T α} (h1 : c → Wb k t Q E) (h2 : ¬ c → Wb k s Q E) : Wb k (if c then t else s) Q E := by
  by_cases hc : c
  · rw [if_pos hc]; exact h1 hc
  · rw [if_neg hc]; exact h2 hc
theorem wb_eq {t s : T α} (e : t = s) (h : Wb k s Q E) : Wb k t Q E := e ▸ h
/-- what a callee needs, c draws at most -/
theorem wb_call {c : Nat} {t : T α} {P : α → Prop} (s : Wb c t (fun _ a => P a) XF) (hc : c ≤ k) (h : ∀ a, P a → Q (k - c) a) : Wb k t Q E :=
  ⟨fun n hn => T.wp_mono (s.h n (by omega)) (fun a m _ z => by obtain ⟨j, z1, z2⟩ := z; exact ⟨k - c, by omega, h a z2⟩) (fun _ _ _ z => by obtain ⟨_, _, z⟩ := z; exact z.elim)⟩
theorem wb_callB {c : Nat} {t : T α} {f : α → T β} {P : α → Prop} (s : Wb c t (fun _ a => P a) XF) (hc : c ≤ k) (h : ∀ a, P a → Wb (k - c) (f a) R E) : Wb k (t.bind f) R E := wb_bind (wb_call s hc h)
theorem wb_callX {c : Nat} {t : T α} {f : α → T β} {g : D → T β} {P : α → Prop} (s : Wb c t (fun _ a => P a) XF) (hc : c ≤ k) (h : ∀ a, P a → Wb (k - c) (f a) R E) : Wb k (t.bindX f g) R E := wb_bindX (wb_call s hc h)
theorem Wb.more {c : Nat} {t : T α} {P : α → Prop} (s : Wb c t (fun _ a => P a) XF) (hc : c ≤ k) : Wb k t (fun _ a => P a) XF := wb_call s hc fun _ h => h
theorem wp_some {t : T α} {n : Nat} {P : α → Nat → Prop} {G : D → Nat → Prop} (h : t.wp n P G) : (∃ a m, n ≤ m ∧ P a m) ∨ ∃ e m, n ≤ m ∧ G e m := by
  induction t generalizing n with
  | ret a => exact .inl ⟨a, n, Nat.le_refl _, h⟩
  | ex e => exact .inr ⟨e, n, Nat.le_refl _, h⟩
  | draw u f ih =>
    rcases ih 0 (h.2.2.2 0 h.1) with ⟨a, m, l, z⟩ | ⟨a, m, l, z⟩
    · exact .inl ⟨a, m, by omega, z⟩
    · exact .inr ⟨a, m, by omega, z⟩
  | fail => exact h.elim
theorem pure_ret {t : T α} {v : α} (h : Wb 0 t (fun _ a => a = v) XF) : t = .ret v := by
  have z := h.h 0 (by decide)
  cases t with
  | ret a => obtain ⟨_, _, e⟩ := z; rw [e]
  | ex e => obtain ⟨_, _, e⟩ := z; exact e.elim
  | draw u f =>
    rcases wp_some (z.2.2.2 0 z.1) with ⟨a, m, l, j, y, _⟩ | ⟨a, m, l, j, y, _⟩ <;> omega
  | fail => exact z.elim
theorem pure_ex {t : T α} {v : D} (h : Wb 0 t (fun _ _ => False) (fun _ e => e = v)) : t = .ex v := by
  have z := h.h 0 (by decide)
  cases t with
  | ret a => obtain ⟨_, _, e⟩ := z; exact e.elim
  | ex e => obtain ⟨_, _, e⟩ := z; rw [e]
  | draw u f =>
    rcases wp_some (z.2.2.2 0 z.1) with ⟨a, m, l, j, y, _⟩ | ⟨a, m, l, j, y, _⟩ <;> omega
  | fail => exact z.elim
/-- some value, told about -/
theorem pure_some {t : T α} {P : α → Prop} (h : Wb 0 t (fun _ a => P a) XF) : ∃ v, t = .ret v ∧ P v := by
  have z := h.h 0 (by decide)
  cases t with
  | ret a => obtain ⟨_, _, e⟩ := z; exact ⟨a, rfl, e⟩
  | ex e => obtain ⟨_, _, e⟩ := z; exact e.elim
  | draw u f =>
    rcases wp_some (z.2.2.2 0 z.1) with ⟨a, m, l, j, y, _⟩ | ⟨a, m, l, j, y, _⟩ <;> omega
  | fail => exact z.elim
end
/-! statements -/
section
variable {α : Type} {k : Nat} {Q : Nat → Fl → Prop} {E : Nat → D → Prop} {env : Env}
theorem wb_seq {m m2 : Env → T Fl} (h : Wb k (m env) (fun j r => match r with
    | .nx e => Wb j (m2 e) Q E
    | r => Q j r) E) : Wb k (seqS m m2 env) Q E :=
  wb_bind (h.mono (fun j r _ z => by cases r <;> first | exact z | exact wb_ret z) (fun _ _ _ z => z))
theorem wb_exS {m : Env → T α} {f : α → Env → T Fl} (h : Wb k (m env) (fun j d => Wb j (f d env) Q E) (fun j x => Q j (.ex x env))) : Wb k (exS m f env) Q E :=
  wb_bindX (h.mono (fun _ _ _ z => z) (fun _ _ _ z => wb_ret z))
theorem wb_asg {i : Nat} {m : Env → T D} (h : Wb k (m env) (fun j d => Q j (.nx (env.set i (some (.fz d))))) (fun j x => Q j (.ex x env))) : Wb k (asgS i m env) Q E :=
  wb_exS (h.mono (fun _ _ _ z => wb_ret z) (fun _ _ _ z => z))
theorem wb_asgO {i : Nat} {m : Env → T O} (h : Wb k (m env) (fun j d => Q j (.nx (env.set i (some d)))) (fun j x => Q j (.ex x env))) : Wb k (asgO i m env) Q E :=
  wb_exS (h.mono (fun _ _ _ z => wb_ret z) (fun _ _ _ z => z))
theorem wb_drop {m : Env → T D} (h : Wb k (m env) (fun j d => Q j (.nx env)) (fun j x => Q j (.ex x env))) : Wb k (dropS m env) Q E :=
  wb_exS (h.mono (fun _ _ _ z => wb_ret z) (fun _ _ _ z => z))
theorem wb_retS {m : Env → T D} (h : Wb k (m env) (fun j d => Q j (.rt d)) (fun j x => Q j (.ex x env))) : Wb k (retS m env) Q E :=
  wb_exS (h.mono (fun _ _ _ z => wb_ret z) (fun _ _ _ z => z))
theorem wb_if {t : Env → T Bool} {m m2 : Env → T Fl} (h : Wb k (t env) (fun j b => if b = true then Wb j (m env) Q E else Wb j (m2 env) Q E) (fun j x => Q j (.ex x env))) : Wb k (ifS t m m2 env) Q E :=
  wb_exS (h.mono (fun _ b _ z => by cases b <;> exact z) (fun _ _ _ z => z))
theorem wb_tgt {pt : Pt} {m : Env → T D} (h : Wb k (m env) (fun j d => ∃ e, putP pt d env = some e ∧ Q j (.nx e)) (fun j x => Q j (.ex x env))) : Wb k (tgtS pt m env) Q E :=
  wb_exS (h.mono (fun _ _ _ z => by obtain ⟨e, z1, z2⟩ := z; rw [z1]; exact wb_ret z2) (fun _ _ _ z => z))
theorem wb_nx (h : Q k (.nx env)) : Wb k (nxS env) Q E := wb_ret h
theorem wb_runF {R : Nat → D → Prop} {N : Nat} {m : Env → T Fl} {ds : List D} (h : Wb k (m (startE N ds)) (fun j r => Wb j (endF r) R E) XF) : Wb k (runF N m ds) R E :=
  wb_bind (wb_nox h)
theorem wb_for {it : Env → T (List D)} {pt : Pt} {m : Env → T Fl} (h : Wb k (it env) (fun j ds => Wb j (forL pt m ds env) Q E) (fun j x => Q j (.ex x env))) : Wb k (forS it pt m env) Q E := wb_exS h
/-- a statement and what is known behind it -/
theorem wb_cut {k c : Nat} {Q : Nat → Fl → Prop} {E : Nat → D → Prop} {env : Env} {m m2 : Env → T Fl} (P : Env → Prop) (h : Wb c (m env) (fun _ r => ∃ e, r = .nx e ∧ P e) XF) (hc : c ≤ k) (h2 : ∀ e, P e → Wb (k - c) (m2 e) Q E) : Wb k (seqS m m2 env) Q E :=
  wb_bind (wb_call h hc fun r z => by obtain ⟨e, rfl, z⟩ := z; exact h2 e z)
/-- behind a turn of a loop -/
def TurnP (P : Env → Prop) (Z : Fl → Prop) : Fl → Prop
  | .nx e => P e
  | .ct e => P e
  | r => Z r
@[simp] theorem turnP_nx {P : Env → Prop} {Z : Fl → Prop} {e : Env} : TurnP P Z (.nx e) = P e := (rfl)
@[simp] theorem turnP_ct {P : Env → Prop} {Z : Fl → Prop} {e : Env} : TurnP P Z (.ct e) = P e := (rfl)
@[simp] theorem turnP_rt {P : Env → Prop} {Z : Fl → Prop} {d : D} : TurnP P Z (.rt d) = Z (.rt d) := (rfl)
@[simp] theorem turnP_bk {P : Env → Prop} {Z : Fl → Prop} {e : Env} : TurnP P Z (.bk e) = Z (.bk e) := (rfl)
@[simp] theorem turnP_ro {P : Env → Prop} {Z : Fl → Prop} {o : O} : TurnP P Z (.ro o) = Z (.ro o) := (rfl)
@[simp] theorem turnP_ex {P : Env → Prop} {Z : Fl → Prop} {d : D} {e : Env} : TurnP P Z (.ex d e) = Z (.ex d e) := (rfl)
def noZ : Fl → Prop := fun _ => False
/-- a loop by its invariant; Z: what may end it ahead of time -/
theorem wb_forL {pt : Pt} {m : Env → T Fl} (b : Nat) (Z : Fl → Prop) (I : Nat → Env → Prop) : ∀ {ds : List D} {k : Nat} {env : Env}, I 0 env → b * ds.length ≤ k →
    (∀ j d env, ds[j]? = some d → I j env → ∃ env', putP pt d env = some env' ∧ Wb b (m env') (fun _ r => TurnP (I (j + 1)) Z r) XF) →
    Wb k (forL pt m ds env) (fun j r => j = k - b * ds.length ∧ ((∃ e, r = .nx e ∧ I ds.length e) ∨ (∃ e, Z (.bk e) ∧ r = .nx e) ∨ (Z r ∧ (∀ e, r ≠ .nx e)))) XF
  | [], k, env, h0, hk, h => wb_ret ⟨by simp, .inl ⟨env, rfl, h0⟩⟩
  | d :: ds, k, env, h0, hk, h => by
    rw [List.length_cons, Nat.mul_succ] at hk
    obtain ⟨env', e, he⟩ := h 0 d env rfl h0
    unfold forL
    rw [e]
    dsimp only
    refine wb_bind (wb_call (P := fun r => TurnP (I (0 + 1)) Z r) he (by omega) fun r z => ?_)
    have go : ∀ e2, I 1 e2 → Wb (k - b) (forL pt m ds e2) (fun j r => j = k - b * (d :: ds).length ∧ ((∃ e, r = .nx e ∧ I (d :: ds).length e) ∨ (∃ e, Z (.bk e) ∧ r = .nx e) ∨ (Z r ∧ (∀ e, r ≠ .nx e)))) XF := fun e2 i1 => by
      refine (wb_forL b Z (fun j => I (j + 1)) (ds := ds) (k := k - b) (env := e2) i1 (by omega) fun j d env ej ij => h (j + 1) d env (by simpa using ej) ij).mono (fun j r _ z => ⟨?_, z.2⟩) (fun _ _ _ z => z)
      rw [List.length_cons, Nat.mul_succ, z.1]
      omega
    have hk2 : k - b * (d :: ds).length ≤ k - b := by rw [List.length_cons, Nat.mul_succ]; omega
    have stop : ∀ r, ((∃ e, Z (.bk e) ∧ r = .nx e) ∨ (Z r ∧ (∀ e, r ≠ .nx e))) → Wb (k - b) (.ret r) (fun j r => j = k - b * (d :: ds).length ∧ ((∃ e, r = .nx e ∧ I (d :: ds).length e) ∨ (∃ e, Z (.bk e) ∧ r = .nx e) ∨ (Z r ∧ (∀ e, r ≠ .nx e)))) XF := fun r z =>
      ⟨fun n hn => ⟨_, by omega, rfl, .inr z⟩⟩
    cases r with
    | nx e2 => exact go e2 z
    | ct e2 => exact go e2 z
    | bk e2 => exact stop _ (.inl ⟨e2, z, rfl⟩)
    | rt d => exact stop _ (.inr ⟨z, fun _ z => nomatch z⟩)
    | ex x e2 => exact stop _ (.inr ⟨z, fun _ z => nomatch z⟩)
    | ro o => exact stop _ (.inr ⟨z, fun _ z => nomatch z⟩)
/-- a loop that nothing ends ahead of time -/
theorem wb_forI {pt : Pt} {m : Env → T Fl} (b : Nat) (I : Nat → Env → Prop) {ds : List D} {k : Nat} {env : Env} {Q : Nat → Fl → Prop} {E : Nat → D → Prop} (h0 : I 0 env) (hk : b * ds.length ≤ k)
    (h : ∀ j d env, ds[j]? = some d → I j env → ∃ env', putP pt d env = some env' ∧ Wb b (m env') (fun _ r => TurnP (I (j + 1)) noZ r) XF) (h1 : ∀ e, I ds.length e → Q (k - b * ds.length) (.nx e)) : Wb k (forL pt m ds env) Q E := by
  refine (wb_forL b noZ I h0 hk fun j d env e i => ?_).mono (fun j r _ z => ?_) (fun _ _ _ z => z.elim)
  · obtain ⟨env', h1, h2⟩ := h j d env e i
    exact ⟨env', h1, h2⟩
  · obtain ⟨rfl, ⟨e, rfl, z⟩ | ⟨_, z, _⟩ | ⟨z, _⟩⟩ := z
    · exact h1 e z
    · exact z.elim
    · exact z.elim
/-- a comprehension whose elements all are P -/
theorem wb_compL {pt : Pt} {me : Env → T D} (b : Nat) (P : Nat → D → Prop) : ∀ {ds : List D} {k : Nat}, b * ds.length ≤ k →
    (∀ j d, ds[j]? = some d → ∃ env', putP pt d env = some env' ∧ Wb b (me env') (fun _ y => P j y) XF) →
    Wb k (compL pt env (fun _ => .ret true) me ds) (fun j r => j = k - b * ds.length ∧ r.length = ds.length ∧ ∀ j y, r[j]? = some y → P j y) E
  | [], k, _, _ => wb_ret ⟨by simp, rfl, fun j y e => by simp at e⟩
  | d :: ds, k, hk, h => by
    rw [List.length_cons, Nat.mul_succ] at hk
    obtain ⟨env', e, he⟩ := h 0 d rfl
    unfold compL
    rw [e]
    dsimp only
    refine wb_bind (wb_nox (wb_ret ?_))
    rw [if_pos rfl]
    refine wb_bind (wb_nox (wb_call he (by omega) fun y hy => ?_))
    refine wb_bind ((wb_compL b (fun j => P (j + 1)) (ds := ds) (k := k - b) (by omega) fun j d e => h (j + 1) d (by simpa using e)).mono (fun j r _ z => wb_ret ⟨?_, ?_, ?_⟩) (fun _ _ _ z => z))
    · rw [List.length_cons, Nat.mul_succ, z.1]; omega
    · simp [z.2.1]
    · intro j y e
      cases j with
      | zero => simp at e; exact e ▸ hy
      | succ j => exact z.2.2 j y (by simpa using e)
end
/-! what runs without draws, by equations -/
@[simp] theorem T.bind_ret {α β : Type} {a : α} {f : α → T β} : (T.ret a).bind f = f a := (rfl)
@[simp] theorem T.bind_ex {α β : Type} {e : D} {f : α → T β} : (T.ex e : T α).bind f = .ex e := (rfl)
@[simp] theorem T.bindX_ret {α β : Type} {a : α} {f : α → T β} {g : D → T β} : (T.ret a).bindX f g = f a := (rfl)
@[simp] theorem T.bindX_ex {α β : Type} {e : D} {f : α → T β} {g : D → T β} : (T.ex e : T α).bindX f g = g e := (rfl)
@[simp] theorem T.noX_ret {α : Type} {a : α} : (T.ret a).noX = .ret a := (rfl)
theorem grd_pos {α : Type} {c : Prop} [Decidable c] {t : T α} (h : c) : grd c t = t := if_pos h
theorem compL_map {pt : Pt} {env : Env} {tt : Env → T Bool} {me : Env → T D} {f : D → D} : ∀ {ds : List D}, (∀ d ∈ ds, ∃ env', putP pt d env = some env' ∧ tt env' = .ret true ∧ me env' = .ret (f d)) → compL pt env tt me ds = .ret (ds.map f)
  | [], _ => rfl
  | d :: ds, h => by
    obtain ⟨env', e1, e2, e3⟩ := h d (List.mem_cons_self ..)
    unfold compL
    rw [e1]
    dsimp only
    rw [e2, e3, T.noX_ret, T.bind_ret, if_pos rfl, T.noX_ret, T.bind_ret, compL_map fun d m => h d (List.mem_cons_of_mem _ m)]
    rfl
theorem compL_filter {pt : Pt} {env : Env} {tt : Env → T Bool} {me : Env → T D} {p : D → Bool} {f : D → D} : ∀ {ds : List D}, (∀ d ∈ ds, ∃ env', putP pt d env = some env' ∧ tt env' = .ret (p d) ∧ (p d = true → me env' = .ret (f d))) → compL pt env tt me ds = .ret ((ds.filter p).map f)
  | [], _ => rfl
  | d :: ds, h => by
    obtain ⟨env', e1, e2, e3⟩ := h d (List.mem_cons_self ..)
    unfold compL
    rw [e1]
    dsimp only
    rw [e2, T.noX_ret, T.bind_ret, compL_filter fun d m => h d (List.mem_cons_of_mem _ m)]
    cases hp : p d with
    | true =>
      rw [if_pos rfl, e3 hp, T.noX_ret, T.bind_ret, List.filter_cons_of_pos hp]
      rfl
    | false => rw [if_neg (by decide), List.filter_cons_of_neg (by rw [hp]; decide)]
theorem lawOk_wb {nN i : Nat} {m : Env → T Fl} (k : Nat) (hk : k ≤ T.cap) (h : Wb k (m (lawE nN i)) (fun _ r => r = .rt (.bl true)) XF) : lawOk nN i m :=
  T.wp_mono (h.h 0 (by omega)) (fun r _ _ z => by obtain ⟨_, _, rfl⟩ := z; trivial) (fun _ _ _ z => by obtain ⟨_, _, z⟩ := z; exact z)
/-- if ..: return False, that does not come about -/
theorem wb_ifno {k : Nat} {Q : Nat → Fl → Prop} {E : Nat → D → Prop} {env : Env} {t : Env → T Bool} {m m2 : Env → T Fl} (e : t env = .ret false) (h : Wb k (m2 env) Q E) : Wb k (ifS t m m2 env) Q E :=
  wb_if (wb_eq e (wb_ret h))
end Pu
set_option Elab.async false
set_option linter.all false
set_option maxRecDepth 100000
set_option maxHeartbeats 4000000
/-! equations of the combinators, for simp -/
namespace Pu
open PySem L2 Stp NdefX LamX
open PyProof.Rows hiding St
section
variable {env : Env}
@[simp] theorem T.noX_ex {α : Type} {e : D} : (T.ex e : T α).noX = .fail := (rfl)
@[simp] theorem T.noX_fail {α : Type} : (T.fail : T α).noX = .fail := (rfl)
@[simp] theorem T.bind_fail {α β : Type} {f : α → T β} : (T.fail : T α).bind f = .fail := (rfl)
@[simp] theorem T.bindX_fail {α β : Type} {f : α → T β} {g : D → T β} : (T.fail : T α).bindX f g = .fail := (rfl)
@[simp] theorem T.bind_ite {α β : Type} {c : Prop} [Decidable c] {t s : T α} {f : α → T β} : (if c then t else s).bind f = if c then t.bind f else s.bind f := by split <;> rfl
@[simp] theorem T.bindX_ite {α β : Type} {c : Prop} [Decidable c] {t s : T α} {f : α → T β} {g : D → T β} : (if c then t else s).bindX f g = if c then t.bindX f g else s.bindX f g := by split <;> rfl
@[simp] theorem T.noX_ite {α : Type} {c : Prop} [Decidable c] {t s : T α} : (if c then t else s).noX = if c then t.noX else s.noX := by split <;> rfl
@[simp] theorem T.bind_assoc2 {α β γ : Type} {t : T α} {f : α → T β} {g : β → T γ} : (t.bind f).bind g = t.bind fun a => (f a).bind g := T.bind_assoc ..
@[simp] theorem big_0 : (0 ≤ big) = True := eq_true (by decide)
@[simp] theorem big_1 : (1 ≤ big) = True := eq_true (by decide)
@[simp] theorem big_2 : (2 ≤ big) = True := eq_true (by decide)
@[simp] theorem big_3 : (3 ≤ big) = True := eq_true (by decide)
@[simp] theorem big_4 : (4 ≤ big) = True := eq_true (by decide)
@[simp] theorem big_5 : (5 ≤ big) = True := eq_true (by decide)
@[simp] theorem big_6 : (6 ≤ big) = True := eq_true (by decide)
@[simp] theorem big_7 : (7 ≤ big) = True := eq_true (by decide)
@[simp] theorem big_8 : (8 ≤ big) = True := eq_true (by decide)
@[simp] theorem big_9 : (9 ≤ big) = True := eq_true (by decide)
@[simp] theorem big_10 : (10 ≤ big) = True := eq_true (by decide)
@[simp] theorem big_11 : (11 ≤ big) = True := eq_true (by decide)
@[simp] theorem big_12 : (12 ≤ big) = True := eq_true (by decide)
@[simp] theorem big_13 : (13 ≤ big) = True := eq_true (by decide)
@[simp] theorem big_14 : (14 ≤ big) = True := eq_true (by decide)
@[simp] theorem big_15 : (15 ≤ big) = True := eq_true (by decide)
@[simp] theorem big_16 : (16 ≤ big) = True := eq_true (by decide)
@[simp] theorem big_17 : (17 ≤ big) = True := eq_true (by decide)
@[simp] theorem big_18 : (18 ≤ big) = True := eq_true (by decide)
@[simp] theorem big_19 : (19 ≤ big) = True := eq_true (by decide)
@[simp] theorem big_20 : (20 ≤ big) = True := eq_true (by decide)
@[simp] theorem big_21 : (21 ≤ big) = True := eq_true (by decide)
@[simp] theorem big_22 : (22 ≤ big) = True := eq_true (by decide)
@[simp] theorem big_23 : (23 ≤ big) = True := eq_true (by decide)
@[simp] theorem big_24 : (24 ≤ big) = True := eq_true (by decide)
@[simp] theorem big_25 : (25 ≤ big) = True := eq_true (by decide)
@[simp] theorem big_26 : (26 ≤ big) = True := eq_true (by decide)
@[simp] theorem big_27 : (27 ≤ big) = True := eq_true (by decide)
@[simp] theorem big_28 : (28 ≤ big) = True := eq_true (by decide)
@[simp] theorem big_29 : (29 ≤ big) = True := eq_true (by decide)
@[simp] theorem big_30 : (30 ≤ big) = True := eq_true (by decide)
@[simp] theorem big_31 : (31 ≤ big) = True := eq_true (by decide)
@[simp] theorem big_32 : (32 ≤ big) = True := eq_true (by decide)
@[simp] theorem big_33 : (33 ≤ big) = True := eq_true (by decide)
@[simp] theorem big_34 : (34 ≤ big) = True := eq_true (by decide)
@[simp] theorem big_35 : (35 ≤ big) = True := eq_true (by decide)
@[simp] theorem big_36 : (36 ≤ big) = True := eq_true (by decide)
@[simp] theorem big_37 : (37 ≤ big) = True := eq_true (by decide)
@[simp] theorem big_38 : (38 ≤ big) = True := eq_true (by decide)
@[simp] theorem big_39 : (39 ≤ big) = True := eq_true (by decide)
@[simp] theorem big_40 : (40 ≤ big) = True := eq_true (by decide)
@[simp] theorem grd_true {α : Type} {t : T α} : grd True t = t := if_pos trivial
@[simp] theorem qLook_def {i : Nat} : qLook i env = match env[i]? with
  | some (some o) => .ret o.toD
  | _ => .fail := (rfl)
@[simp] theorem qIf_def {t : Env → T Bool} {m k : Env → T D} : qIf t m k env = (t env).bind fun x => if x = true then m env else k env := (rfl)
def andD (t : T D) : D → T D
  | .bl true => t
  | .bl false => .ret (.bl false)
  | _ => .fail
def orD (t : T D) : D → T D
  | .bl true => .ret (.bl true)
  | .bl false => t
  | _ => .fail
@[simp] theorem andD_bl {t : T D} {b : Bool} : andD t (.bl b) = if b = true then t else .ret (.bl false) := by cases b <;> rfl
@[simp] theorem orD_bl {t : T D} {b : Bool} : orD t (.bl b) = if b = true then .ret (.bl true) else t := by cases b <;> rfl
@[simp] theorem qAnd_def {m k : Env → T D} : qAnd m k env = (m env).bind (andD (k env)) := by
  unfold qAnd
  congr 1
@[simp] theorem qOr_def {m k : Env → T D} : qOr m k env = (m env).bind (orD (k env)) := by
  unfold qOr
  congr 1
@[simp] theorem ite_bl_and {c : Prop} [Decidable c] {b : Bool} : (if c then T.ret (D.bl b) else T.ret (D.bl false)) = T.ret (D.bl (decide c && b)) := by by_cases h : c <;> simp [h]
@[simp] theorem ite_bl_or {c : Prop} [Decidable c] {b : Bool} : (if c then T.ret (D.bl true) else T.ret (D.bl b)) = T.ret (D.bl (decide c || b)) := by by_cases h : c <;> simp [h]
@[simp] theorem ite_b_and {c : Prop} [Decidable c] {b : Bool} : (if c then T.ret b else T.ret false) = T.ret (decide c && b) := by by_cases h : c <;> simp [h]
@[simp] theorem ite_b_or {c : Prop} [Decidable c] {b : Bool} : (if c then T.ret true else T.ret b) = T.ret (decide c || b) := by by_cases h : c <;> simp [h]
@[simp] theorem tb1_def {m : Env → T D} {f : D → T Bool} : tb1 m f env = (m env).bind f := (rfl)
@[simp] theorem tbAnd_def {m k : Env → T Bool} : tbAnd m k env = (m env).bind fun x => if x = true then k env else .ret false := (rfl)
@[simp] theorem tbOr_def {m k : Env → T Bool} : tbOr m k env = (m env).bind fun x => if x = true then .ret true else k env := (rfl)
@[simp] theorem tbNot_def {m : Env → T Bool} : tbNot m env = (m env).bind fun x => .ret (!x) := (rfl)
@[simp] theorem qChain_def {f g : Int → Int → Bool} {ma mb mc : Env → T D} : qChain f g ma mb mc env = (ma env).bind fun x => (mb env).bind fun y => match x, y with
  | .int i, .int j => if f i j = true then (mc env).bind fun z => match z with
      | .int l => .ret (.bl (g j l))
      | _ => .fail else .ret (.bl false)
  | _, _ => .fail := (rfl)
end
@[simp] theorem qIxO_def {i : Nat} {mb : Env → T D} {env : Env} : qIxO i mb env = match env[i]? with
  | some (some o) => (mb env).bind (itO o)
  | _ => .fail := (rfl)
@[simp] theorem qSlice_def {m : Env → T D} {lo hi : Env → T (Option Int)} {env : Env} : qSlice m lo hi env = (m env).bind fun d => (lo env).bind fun l => (hi env).bind fun h => sliceD d l h := (rfl)
@[simp] theorem oNone_def  {env : Env} : oNone env = .ret none := (rfl)
@[simp] theorem oSome_def {m : Env → T D} {env : Env} : oSome m env = (m env).bind fun d => match d with
  | .int i => .ret (some i)
  | _ => .fail := (rfl)
@[simp] theorem iSeq_def {m : Env → T D} {env : Env} : iSeq m env = (m env).bind itemsD := (rfl)
@[simp] theorem rng2_def {m k : Env → T D} {env : Env} : rng2 m k env = (m env).bind fun d => (k env).bind fun e => match d, e with
  | .int i, .int j => grd ((-4611686018427387904 ≤ i ∧ i < 4611686018427387904) ∧ -4611686018427387904 ≤ j ∧ j < 4611686018427387904) (.ret (rngL i (j - i).toNat))
  | _, _ => .fail := (rfl)
@[simp] theorem lrg1_def {m : Env → T D} {env : Env} : lrg1 m env = (m env).bind fun d => match d with
  | .int n => grd (0 ≤ n ∧ n ≤ 1000000) (.ret (.lst (rgD 0 n)))
  | _ => .fail := (rfl)
@[simp] theorem qIndex_def {mo me : Env → T D} {env : Env} : qIndex mo me env = (mo env).bind fun d => match d with
  | .lst xs => (me env).bind fun y => indexD (.lst xs) y
  | _ => .fail := (rfl)
@[simp] theorem qCount_def {mo me : Env → T D} {env : Env} : qCount mo me env = (mo env).bind fun d => match d with
  | .lst xs => (me env).bind fun y => countD (.lst xs) y
  | _ => .fail := (rfl)
/-- a method of the class c -/
def methF (c : Nat) (m : Str) (np : Nat) (mf : List D → T D) (ma : T (List D)) : D → T D
  | .obj c' fs => if c' = c ∧ fs.lookup m = none then ma.bind fun ds => grd (ds.length + 1 = np) (mf (.obj c' fs :: ds)) else .fail
  | _ => .fail
@[simp] theorem qMeth_def {c : Nat} {m : Str} {np : Nat} {mf : List D → T D} {mo : Env → T D} {ma : Env → T (List D)} {env : Env} : qMeth c m np mf mo ma env = (mo env).bind (methF c m np mf (ma env)) := by
  unfold qMeth
  congr 1
  funext o
  cases o <;> rfl
def isCO (c : Nat) : Option (Option O) → Bool
  | some (some (.fz (.obj c' _))) => c' == c
  | _ => false
@[simp] theorem isC_def {c i : Nat} {env : Env} : isC c i env = isCO c env[i]? := by
  unfold isC isCO
  rfl
@[simp] theorem qCallV_def {L : LamL} {i : Nat} {ma : Env → T (List D)} {env : Env} : qCallV L i ma env = (qVar i env).bind (callVs L (ma env)) := (rfl)
@[simp] theorem aStar_def {m : Env → T D} {k : Env → T (List D)} {env : Env} : aStar m k env = (m env).bind fun d => (itmD d).bind fun xs => (k env).bind fun ys => .ret (xs ++ ys) := (rfl)
@[simp] theorem aLam_def {id : Nat} {js : List Nat} {k : Env → T (List D)} {env : Env} : aLam id js k env = match capsD env js with
  | some cs => (k env).bind fun ds => .ret (.fn id cs :: ds)
  | none => .fail := (rfl)
@[simp] theorem raiseS_def {c : Nat} {env : Env} : raiseS c env = .ret (.ex (.exc c []) env) := (rfl)
@[simp] theorem tryS_def {xm : Nat → Option Bool} {i j : Nat} {m : Env → T Fl} {env : Env} : tryS xm i j m env = (m env).bind (catchS xm i j) := (rfl)
@[simp] theorem appS_def {i : Nat} {m : Env → T D} {env : Env} : appS i m env = ownL i env fun xs => exS m (fun d env => grd (xs.length ≤ big) (.ret (.nx (env.set i (some (.ls (xs ++ [d]))))))) env := (rfl)
@[simp] theorem extS_def {i : Nat} {m : Env → T D} {env : Env} : extS i m env = ownL i env fun xs => exS m (fun d env => match d with
  | .lst ys => grd (xs.length + ys.length ≤ big) (.ret (.nx (env.set i (some (.ls (xs ++ ys))))))
  | .tup ys => grd (xs.length + ys.length ≤ big) (.ret (.nx (env.set i (some (.ls (xs ++ ys))))))
  | _ => .fail) env := (rfl)
@[simp] theorem setS_def {i : Nat} {mi m : Env → T D} {env : Env} : setS i mi m env = ownL i env fun xs => exS (fun env => (m env).bind fun d => (mi env).bind fun j => .ret (d, j)) (fun p env => match p.2 with
  | .int k => (match ixN xs.length k with
    | some j => .ret (.nx (env.set i (some (.ls (xs.set j p.1)))))
    | none => .fail)
  | _ => .fail) env := (rfl)
@[simp] theorem setLLS_def {i : Nat} {mi mj m : Env → T D} {env : Env} : setLLS i mi mj m env = ownLL i env fun xss => exS (fun env => (m env).bind fun d => (mi env).bind fun a => (ixA xss.length a).bind fun ja => (mj env).bind fun b => .ret (d, ja, b)) (fun p env => (ixA (xss.getD p.2.1 []).length p.2.2).bind fun jb => .ret (.nx (env.set i (some (.ll (xss.set p.2.1 ((xss.getD p.2.1 []).set jb p.1))))))) env := (rfl)
@[simp] theorem meS_def {cs : List Nat} {f : Str} {m : Env → T D} {env : Env} : meS cs f m env = match env[(0 : Nat)]? with
  | some (some (O.me c fs)) => if c ∈ cs ∧ fs.length < 100 then exS m (fun d env => .ret (.nx (env.set 0 (some (.me c (putFD f d fs)))))) env else .fail
  | _ => .fail := (rfl)
@[simp] theorem baseS_def {m : Nat → List (Str × D) → List D → T (List (Str × D))} {np : Nat} {ma : Env → T (List D)} {env : Env} : baseS m np ma env = match env[(0 : Nat)]? with
  | some (some (O.me c fs)) => exS (fun env => (ma env).bind fun ds => grd (ds.length + 1 = np) (m c fs ds).noX) (fun fs' env => .ret (.nx (env.set 0 (some (.me c fs'))))) env
  | _ => .fail := (rfl)
@[simp] theorem parO_def {i j : Nat} {m k : Env → T O} {env : Env} : parO i j m k env = (exS (fun env => (m env).bind fun a => (k env).bind fun b => .ret (a, b)) fun p env => .ret (.nx ((env.set i (some p.1)).set j (some p.2)))) env := (rfl)
@[simp] theorem parO3_def {i j l : Nat} {m1 m2 m3 : Env → T O} {env : Env} : parO3 i j l m1 m2 m3 env = (exS (fun env => (m1 env).bind fun a => (m2 env).bind fun b => (m3 env).bind fun c => .ret (a, b, c)) fun p env => .ret (.nx (((env.set i (some p.1)).set j (some p.2.1)).set l (some p.2.2)))) env := (rfl)
@[simp] theorem oQ_def {m : Env → T D} {env : Env} : oQ m env = (m env).bind fun d => .ret (.fz d) := (rfl)
@[simp] theorem oL_def {m : Env → T (List D)} {env : Env} : oL m env = (m env).bind fun ds => grd (ds.length ≤ big) (.ret (.ls ds)) := (rfl)
@[simp] theorem oComp_def {it : Env → T (List D)} {pt : Pt} {own : List Nat} {tt : Env → T Bool} {me : Env → T D} {env : Env} : oComp it pt own tt me env = (qCompR it pt own tt me env).bind fun r => .ret (.ls r) := (rfl)
@[simp] theorem qComp2_def {it : Env → T (List D)} {pt : Pt} {own : List Nat} {tt : Env → T Bool} {it1 : Env → T (List D)} {pt1 : Pt} {vs1 : List Nat} {tt1 : Env → T Bool} {me : Env → T D} {env : Env} : qComp2 it pt own tt it1 pt1 vs1 tt1 me env = (it env).bind fun ds => grd (ds.length ≤ big2) ((compL2 pt (wipeE env own) tt it1 pt1 vs1 tt1 me ds).bind fun r => .ret (.lst r)) := (rfl)
@[simp] theorem oCompLL_def {it : Env → T (List D)} {pt : Pt} {own : List Nat} {me : Env → T O} {env : Env} : oCompLL it pt own me env = (it env).bind fun ds => grd (ds.length ≤ big) ((compLL pt (wipeE env own) me ds).bind fun r => .ret (.ll r)) := (rfl)
@[simp] theorem dputK_def {i : Nat} {mi m : Env → T D} {env : Env} : dputK i mi m env = ownK i env fun kvs => exS (fun env => (m env).bind fun d => (mi env).bind fun j => .ret (d, j)) (fun p env => match keyD p.2 with
  | some k => grd (kvs.length ≤ big) (.ret (.nx (env.set i (some (.dk (putD kvs k p.1))))))
  | none => .fail) env := (rfl)
@[simp] theorem dputT_def {i : Nat} {mi m : Env → T D} {env : Env} : dputT i mi m env = ownT i env fun kvs => exS (fun env => (m env).bind fun d => (mi env).bind fun j => .ret (d, j)) (fun p env => match p.2 with
  | .tup ks => (match keysD ks with
    | some k => grd (kvs.length ≤ big) (.ret (.nx (env.set i (some (.dt (putD kvs k p.1))))))
    | none => .fail)
  | _ => .fail) env := (rfl)
@[simp] theorem exS_def {α : Type} {m : Env → T α} {k : α → Env → T Fl} {env : Env} : exS m k env = (m env).bindX (fun d => k d env) fun e => .ret (.ex e env) := (rfl)
@[simp] theorem tgtS_def {pt : Pt} {m : Env → T D} {env : Env} : tgtS pt m env = (exS m fun d env => match putP pt d env with
  | some env' => .ret (.nx env')
  | none => .fail) env := (rfl)
@[simp] theorem nxS_def  {env : Env} : nxS env = .ret (.nx env) := (rfl)
@[simp] theorem qMethU_def {L : EqL} {m : Str} {np : Nat} {mo : Env → T D} {ma : Env → T (List D)} {env : Env} : qMethU L m np mo ma env = (mo env).bind (methD L m np (ma env)) := (rfl)
@[simp] theorem endF_rt {d : D} : endF (.rt d) = .ret d := (rfl)
@[simp] theorem endF_nx {env : Env} : endF (.nx env) = .ret .non := (rfl)
@[simp] theorem endF_ex {e : D} {env : Env} : endF (.ex e env) = .ex e := (rfl)
@[simp] theorem endI_nx {c : Nat} {fs : List (Str × D)} {env : Env} : endI (.nx (some (.me c fs) :: env)) = .ret fs := (rfl)
@[simp] theorem endI_ex {e : D} {env : Env} : endI (.ex e env) = .ex e := (rfl)
@[simp] theorem runI_def {N c : Nat} {m : Env → T Fl} {fs : List (Str × D)} {ds : List D} : runI N m c fs ds = (m (startI N c fs ds)).noX.bind endI := (rfl)
@[simp] theorem runL_def {N : Nat} {m : Env → T D} {cs ds : List D} : runL N m cs ds = m (startE N (ds ++ cs)) := (rfl)
@[simp] theorem ownL_def {i : Nat} {env : Env} {k : List D → T Fl} : ownL i env k = match env[i]? with
  | some (some (.ls xs)) => k xs
  | _ => .fail := (rfl)
@[simp] theorem ownK_def {i : Nat} {env : Env} {k : List (Key × D) → T Fl} : ownK i env k = match env[i]? with
  | some (some (.dk xs)) => k xs
  | _ => .fail := (rfl)
@[simp] theorem ownT_def {i : Nat} {env : Env} {k : List (List Key × D) → T Fl} : ownT i env k = match env[i]? with
  | some (some (.dt xs)) => k xs
  | _ => .fail := (rfl)
@[simp] theorem ownLL_def {i : Nat} {env : Env} {k : List (List D) → T Fl} : ownLL i env k = match env[i]? with
  | some (some (.ll xs)) => k xs
  | _ => .fail := (rfl)
theorem frzE_def {i : Nat} {env : Env} : frzE i env = match env[i]? with
  | some (some o) => env.set i (some (.fz o.toD))
  | _ => env := rfl
@[simp] theorem addD_int {i j : Int} : addD (.int i) (.int j) = .ret (.int (i + j)) := (rfl)
@[simp] theorem addD_lst {xs ys : List D} : addD (.lst xs) (.lst ys) = grd (xs.length + ys.length ≤ big) (.ret (.lst (xs ++ ys))) := (rfl)
@[simp] theorem addD_tup {xs ys : List D} : addD (.tup xs) (.tup ys) = grd (xs.length + ys.length ≤ big) (.ret (.tup (xs ++ ys))) := (rfl)
@[simp] theorem subD_int {i j : Int} : subD (.int i) (.int j) = .ret (.int (i - j)) := (rfl)
@[simp] theorem mulD_int {i j : Int} : mulD (.int i) (.int j) = grd ((-18446744073709551616 < i ∧ i < 18446744073709551616) ∨ (-18446744073709551616 < j ∧ j < 18446744073709551616)) (.ret (.int (i * j))) := (rfl)
@[simp] theorem mulD_lst {xs : List D} {k : Int} : mulD (.lst xs) (.int k) = grd (0 ≤ k ∧ k ≤ 100000 ∧ xs.length * k.toNat ≤ big) (.ret (.lst (List.replicate k.toNat xs).flatten)) := (rfl)
@[simp] theorem mulD_tup {xs : List D} {k : Int} : mulD (.tup xs) (.int k) = grd (xs ≠ [] ∧ 1 ≤ k ∧ k ≤ 1000 ∧ xs.length ≤ 1000) (.ret (.tup (List.replicate k.toNat xs).flatten)) := (rfl)
@[simp] theorem modD_int {i j : Int} : modD (.int i) (.int j) = grd (0 < j) (.ret (.int (i % j))) := (rfl)
@[simp] theorem fdivD_int {i j : Int} : fdivD (.int i) (.int j) = grd (0 < j ∧ j < 1073741824) (.ret (.int (i / j))) := (rfl)
@[simp] theorem powD_int {i j : Int} : powD (.int i) (.int j) = grd (0 ≤ j ∧ j ≤ 1000 ∧ i.natAbs < 18446744073709551616) (.ret (.int (i ^ j.toNat))) := (rfl)
@[simp] theorem negD_int {i : Int} : negD (.int i) = .ret (.int (-i)) := (rfl)
@[simp] theorem ltD_int {i j : Int} : ltD (.int i) (.int j) = .ret (.bl (decide (i < j))) := (rfl)
@[simp] theorem leD_int {i j : Int} : leD (.int i) (.int j) = .ret (.bl (decide (i ≤ j))) := (rfl)
@[simp] theorem gtD_int {i j : Int} : gtD (.int i) (.int j) = .ret (.bl (decide (j < i))) := (rfl)
@[simp] theorem geD_int {i j : Int} : geD (.int i) (.int j) = .ret (.bl (decide (j ≤ i))) := (rfl)
@[simp] theorem isnD_non {d : D} : isnD d .non = .ret (.bl (isNon d)) := (rfl)
@[simp] theorem oLL2_def {m1 m2 : Env → T O} {env : Env} : oLL2 m1 m2 env = (m1 env).bind fun a => (m2 env).bind fun b => llOf a b := (rfl)
@[simp] theorem llOf_ls {xs ys : List D} : llOf (.ls xs) (.ls ys) = .ret (.ll [xs, ys]) := (rfl)
@[simp] theorem qPN_def {cs : List Nat} {mf : List D → T O} {mo : Env → T D} {env : Env} : qPN cs mf mo env = (mo env).bind (propN cs mf) := (rfl)
@[simp] theorem propN_obj {cs : List Nat} {mf : List D → T O} {c : Nat} {fs : List (Str × D)} : propN cs mf (.obj c fs) = if c ∈ cs then (mf [.obj c fs]).noX else .fail := (rfl)
@[simp] theorem notnD_non {d : D} : notnD d .non = .ret (.bl (!isNon d)) := (rfl)
@[simp] theorem isbD_bl {d : D} {b : Bool} : isbD d (.bl b) = .ret (.bl (blIs d b)) := (rfl)
@[simp] theorem notbD_bl {d : D} {b : Bool} : notbD d (.bl b) = .ret (.bl (!blIs d b)) := (rfl)
@[simp] theorem blIs_bl {b c : Bool} : blIs (.bl c) b = (c == b) := (rfl)
@[simp] theorem notD_bl {k : Bool} : notD (.bl k) = .ret (.bl (!k)) := (rfl)
@[simp] theorem truB_bl {k : Bool} : truB (.bl k) = .ret k := (rfl)
@[simp] theorem truD_bl {k : Bool} : truD (.bl k) = .ret k := (rfl)
@[simp] theorem truD_int {k : Int} : truD (.int k) = .ret (k != 0) := (rfl)
@[simp] theorem truD_non : truD .non = .ret false := (rfl)
@[simp] theorem truD_lst {xs : List D} : truD (.lst xs) = .ret (!xs.isEmpty) := (rfl)
@[simp] theorem truD_tup {xs : List D} : truD (.tup xs) = .ret (!xs.isEmpty) := (rfl)
@[simp] theorem truD_wt {xs : List D} : truD (.wt xs) = .ret (!xs.isEmpty) := (rfl)
@[simp] theorem lenF_lst {xs : List D} : lenF [.lst xs] = .ret (.int xs.length) := (rfl)
@[simp] theorem lenF_tup {xs : List D} : lenF [.tup xs] = .ret (.int xs.length) := (rfl)
@[simp] theorem lenF_wt {xs : List D} : lenF [.wt xs] = .ret (.int xs.length) := (rfl)
@[simp] theorem lenF_dK {xs : List (Key × D)} : lenF [.dK xs] = .ret (.int xs.length) := (rfl)
@[simp] theorem lenF_dT {xs : List (List Key × D)} : lenF [.dT xs] = .ret (.int xs.length) := (rfl)
@[simp] theorem listF_lst {xs : List D} : listF [.lst xs] = .ret (.lst xs) := (rfl)
@[simp] theorem listF_tup {xs : List D} : listF [.tup xs] = .ret (.lst xs) := (rfl)
@[simp] theorem listF_wt {xs : List D} : listF [.wt xs] = .ret (.lst xs) := (rfl)
@[simp] theorem tupleF_lst {xs : List D} : tupleF [.lst xs] = .ret (.tup xs) := (rfl)
@[simp] theorem tupleF_tup {xs : List D} : tupleF [.tup xs] = .ret (.tup xs) := (rfl)
@[simp] theorem intF_int {i : Int} : intF [.int i] = .ret (.int i) := (rfl)
@[simp] theorem intF_bl {k : Bool} : intF [.bl k] = .ret (.int (if k then 1 else 0)) := (rfl)
@[simp] theorem max2F_int {i j : Int} : max2F [.int i, .int j] = .ret (.int (if j > i then j else i)) := (rfl)
@[simp] theorem min2F_int {i j : Int} : min2F [.int i, .int j] = .ret (.int (if j < i then j else i)) := (rfl)
@[simp] theorem itemsD_lst {xs : List D} : itemsD (.lst xs) = .ret xs := (rfl)
@[simp] theorem itemsD_tup {xs : List D} : itemsD (.tup xs) = .ret xs := (rfl)
@[simp] theorem itemsD_wt {xs : List D} : itemsD (.wt xs) = .ret xs := (rfl)
@[simp] theorem itmD_lst {xs : List D} : itmD (.lst xs) = .ret xs := (rfl)
@[simp] theorem itmD_tup {xs : List D} : itmD (.tup xs) = .ret xs := (rfl)
@[simp] theorem itmD_wt {xs : List D} : itmD (.wt xs) = .ret xs := (rfl)
@[simp] theorem listO_lst {xs : List D} : listO (.lst xs) = .ret (.ls xs) := (rfl)
@[simp] theorem listO_tup {xs : List D} : listO (.tup xs) = .ret (.ls xs) := (rfl)
@[simp] theorem ixD_lst {xs : List D} {i : Int} : ixD (.lst xs) (.int i) = ofO (atI xs i) := (rfl)
@[simp] theorem ixD_tup {xs : List D} {i : Int} : ixD (.tup xs) (.int i) = ofO (atI xs i) := (rfl)
@[simp] theorem ixD_wt {xs : List D} {i : Int} : ixD (.wt xs) (.int i) = ofO (atI xs i) := (rfl)
@[simp] theorem itO_ls {xs : List D} {i : Int} : itO (.ls xs) (.int i) = ofO (atI xs i) := (rfl)
@[simp] theorem ofO_some {d : D} : ofO (some d) = .ret d := (rfl)
@[simp] theorem sliceD_lst {xs : List D} {lo hi : Option Int} : sliceD (.lst xs) lo hi = .ret (.lst (cutG xs lo hi)) := (rfl)
@[simp] theorem sliceD_tup {xs : List D} {lo hi : Option Int} : sliceD (.tup xs) lo hi = .ret (.tup (cutG xs lo hi)) := (rfl)
@[simp] theorem boolT_bl {n k : Bool} : boolT n (.bl k) = .ret (.bl (if n then !k else k)) := (rfl)
@[simp] theorem putP_nm {i : Nat} {d : D} {env : Env} : putP (.nm i) d env = some (env.set i (some (.fz d))) := (rfl)
@[simp] theorem putP_tup {is : List Nat} {ds : List D} {env : Env} : putP (.tp is) (.tup ds) env = if ds.length = is.length then some (putL is ds env) else none := (rfl)
@[simp] theorem putP_lst {is : List Nat} {ds : List D} {env : Env} : putP (.tp is) (.lst ds) env = if ds.length = is.length then some (putL is ds env) else none := (rfl)
@[simp] theorem putL_cons {i : Nat} {is : List Nat} {d : D} {ds : List D} {env : Env} : putL (i :: is) (d :: ds) env = putL is ds (env.set i (some (.fz d))) := (rfl)
@[simp] theorem putL_nil {env : Env} : putL [] [] env = env := (rfl)
@[simp] theorem wipeE_nil {env : Env} : wipeE env [] = env := (rfl)
@[simp] theorem wipeE_cons {env : Env} {v : Nat} {vs : List Nat} : wipeE env (v :: vs) = (wipeE env vs).set v none := (rfl)
@[simp] theorem O.toD_fz {d : D} : (O.fz d).toD = d := (rfl)
@[simp] theorem O.toD_ls {xs : List D} : (O.ls xs).toD = .lst xs := (rfl)
@[simp] theorem O.toD_ll {xs : List (List D)} : (O.ll xs).toD = .lst (xs.map .lst) := (rfl)
@[simp] theorem isNon_non : isNon .non = true := (rfl)
@[simp] theorem isNon_int {i : Int} : isNon (.int i) = false := (rfl)
@[simp] theorem isNon_bl {i : Bool} : isNon (.bl i) = false := (rfl)
@[simp] theorem isNon_str {i : Str} : isNon (.str i) = false := (rfl)
@[simp] theorem isNon_lst {i : List D} : isNon (.lst i) = false := (rfl)
@[simp] theorem isNon_tup {i : List D} : isNon (.tup i) = false := (rfl)
@[simp] theorem isNon_exc {c : Nat} {fs : List (Str × D)} : isNon (.exc c fs) = false := (rfl)
@[simp] theorem catchS_nx {xm : Nat → Option Bool} {i j : Nat} {env : Env} : catchS xm i j (.nx env) = .ret (.nx env) := (rfl)
@[simp] theorem catchS_rt {xm : Nat → Option Bool} {i j : Nat} {d : D} : catchS xm i j (.rt d) = .ret (.rt d) := (rfl)
@[simp] theorem catchS_ex {xm : Nat → Option Bool} {i j c : Nat} {env : Env} : catchS xm i j (.ex (.exc c []) env) = match xm c with
  | some true => .ret (.nx (((env.set i (some (.fz (.exc c [])))).set j (some (.fz (.exc c [])))).set i none))
  | some false => .ret (.ex (.exc c []) env)
  | none => .fail := (rfl)
@[simp] theorem forL_nil {pt : Pt} {m : Env → T Fl} {env : Env} : forL pt m [] env = .ret (.nx env) := (rfl)
@[simp] theorem compL_nil {pt : Pt} {tt : Env → T Bool} {me : Env → T D} {env : Env} : compL pt env tt me [] = .ret [] := (rfl)
@[simp] theorem fldD_obj {f : Str} {cs : List Nat} {c : Nat} {fs : List (Str × D)} : fldD f cs (.obj c fs) = if c ∈ cs then ofO (fs.lookup f) else .fail := (rfl)
@[simp] theorem propD_obj {cs : List Nat} {mf : List D → T D} {c : Nat} {fs : List (Str × D)} : propD cs mf (.obj c fs) = if c ∈ cs then (mf [.obj c fs]).noX else .fail := (rfl)
@[simp high] theorem T.retx {t : T D} {env : Env} : ((t.bindX (fun d => T.ret (Fl.rt d)) fun e => T.ret (Fl.ex e env)).noX.bind endF) = t := by
  induction t with
  | ret a => rfl
  | ex e => rfl
  | draw u k ih => exact congrArg (T.draw u) (funext ih)
  | fail => rfl
@[simp high] theorem runF_ret {N : Nat} {m : Env → T D} {ds : List D} : runF N (retS m) ds = m (startE N ds) := T.retx
section
variable {α β γ : Type} {t : T α}
@[simp] theorem T.bindX_bind {f : α → T β} {g : D → T β} {h : β → T γ} : (t.bindX f g).bind h = t.bindX (fun a => (f a).bind h) (fun e => (g e).bind h) := by
  induction t with
  | ret a => rfl
  | ex e => rfl
  | draw u k ih => exact congrArg (T.draw u) (funext ih)
  | fail => rfl
@[simp] theorem T.noX_bindX {f : α → T β} {g : D → T β} : (t.bindX f g).noX = t.bindX (fun a => (f a).noX) (fun e => (g e).noX) := by
  induction t with
  | ret a => rfl
  | ex e => rfl
  | draw u k ih => exact congrArg (T.draw u) (funext ih)
  | fail => rfl
@[simp] theorem T.bindX_exx {f : α → T β} : t.bindX f (fun e => T.ex e) = t.bind f := by
  induction t with
  | ret a => rfl
  | ex e => rfl
  | draw u k ih => exact congrArg (T.draw u) (funext ih)
  | fail => rfl
@[simp] theorem T.bind_bindX {f : α → T β} {g : β → T γ} {h : D → T γ} : (t.bind f).bindX g h = t.bindX (fun a => (f a).bindX g h) h := by
  induction t with
  | ret a => rfl
  | ex e => rfl
  | draw u k ih => exact congrArg (T.draw u) (funext ih)
  | fail => rfl
@[simp] theorem T.bind_retr : t.bind (fun a => T.ret a) = t := by
  induction t with
  | ret a => rfl
  | ex e => rfl
  | draw u k ih => exact congrArg (T.draw u) (funext ih)
  | fail => rfl
@[simp] theorem T.noX_bind {f : α → T β} : (t.bind f).noX = t.noX.bind fun a => (f a).noX := by
  induction t with
  | ret a => rfl
  | ex e => rfl
  | draw u k ih => exact congrArg (T.draw u) (funext ih)
  | fail => rfl
@[simp] theorem T.noX_noX : t.noX.noX = t.noX := by
  induction t with
  | ret a => rfl
  | ex e => rfl
  | draw u k ih => exact congrArg (T.draw u) (funext ih)
  | fail => rfl
@[simp] theorem grd_bind {c : Prop} [Decidable c] {f : α → T β} : (grd c t).bind f = grd c (t.bind f) := by unfold grd; split <;> rfl
@[simp] theorem grd_noX {c : Prop} [Decidable c] : (grd c t).noX = grd c t.noX := by unfold grd; split <;> rfl
@[simp] theorem grd_bindX {c : Prop} [Decidable c] {f : α → T β} {g : D → T β} : (grd c t).bindX f g = grd c (t.bindX f g) := by unfold grd; split <;> rfl
end
/-! fields of machines -/
@[simp] theorem putF_1 {s : D} : putFD (Str.ofString "letters") s [] = [(Str.ofString "letters", s)] := by kernel_rfl
@[simp] theorem putF_2 {s d : D} : putFD (Str.ofString "kinds") d [(Str.ofString "letters", s)] = [(Str.ofString "letters", s), (Str.ofString "kinds", d)] := by kernel_rfl
@[simp] theorem putF_3 {s d t : D} : putFD (Str.ofString "table") t [(Str.ofString "letters", s), (Str.ofString "kinds", d)] = [(Str.ofString "letters", s), (Str.ofString "kinds", d), (Str.ofString "table", t)] := by kernel_rfl
@[simp] theorem lkF_1 {s d t : D} : List.lookup (Str.ofString "letters") [(Str.ofString "letters", s), (Str.ofString "kinds", d), (Str.ofString "table", t)] = some s := by kernel_rfl
@[simp] theorem lkF_2 {s d t : D} : List.lookup (Str.ofString "kinds") [(Str.ofString "letters", s), (Str.ofString "kinds", d), (Str.ofString "table", t)] = some d := by kernel_rfl
@[simp] theorem lkF_3 {s d t : D} : List.lookup (Str.ofString "table") [(Str.ofString "letters", s), (Str.ofString "kinds", d), (Str.ofString "table", t)] = some t := by kernel_rfl
@[simp] theorem frzE_zero_some {o : O} {env : Env} : frzE 0 (some o :: env) = some (.fz o.toD) :: env := (rfl)
@[simp] theorem frzE_zero_none {env : Env} : frzE 0 (none :: env) = none :: env := (rfl)
@[simp] theorem frzE_succ {i : Nat} {x : Option O} {env : Env} : frzE (i + 1) (x :: env) = x :: frzE i env := by
  unfold frzE
  simp only [List.getElem?_cons_succ]
  cases env[i]? with
  | none => rfl
  | some o => cases o <;> rfl
@[simp] theorem flatT_def {d : D} : flatT d = grd (flatTr d = true) (.ret d) := (rfl)
@[simp] theorem ixA_int {n : Nat} {k : Int} : ixA n (.int k) = match ixN n k with
  | some j => .ret j
  | none => .fail := (rfl)
theorem ixN_pos {n : Nat} {k : Int} (h0 : 0 ≤ k) (h1 : k < n) : ixN n k = some k.toNat := by
  unfold ixN
  rw [if_pos h0, if_pos h1]
theorem compLL_map {pt : Pt} {env : Env} {me : Env → T O} {g : D → List D} : ∀ {ds : List D}, (∀ d ∈ ds, ∃ env', putP pt d env = some env' ∧ me env' = .ret (.ls (g d))) → compLL pt env me ds = .ret (ds.map g)
  | [], _ => rfl
  | d :: ds, h => by
    obtain ⟨env', e1, e2⟩ := h d (List.mem_cons_self ..)
    unfold compLL
    rw [e1]
    dsimp only
    rw [e2, T.noX_ret, T.bind_ret]
    dsimp only
    rw [compLL_map fun d m => h d (List.mem_cons_of_mem _ m)]
    rfl
@[simp] theorem endO_ro {o : O} : endO (.ro o) = .ret o := (rfl)
@[simp] theorem endO_rt {d : D} : endO (.rt d) = .ret (.fz d) := (rfl)
@[simp] theorem endO_nx {env : Env} : endO (.nx env) = .ret (.fz .non) := (rfl)
@[simp] theorem endO_ex {e : D} {env : Env} : endO (.ex e env) = .ex e := (rfl)
@[simp] theorem runO_def {N : Nat} {m : Env → T Fl} {ds : List D} : runO N m ds = (m (startE N ds)).noX.bind endO := (rfl)
@[simp] theorem retO_def {i : Nat} {env : Env} : retO i env = match env[i]? with
  | some (some o) => .ret (.ro o)
  | _ => .fail := (rfl)
@[simp] theorem retN_def {m : Env → T O} {env : Env} : retN m env = (m env).bindX (fun o => .ret (.ro o)) fun e => .ret (.ex e env) := (rfl)
@[simp] theorem qNO_def {f : List D → T O} {m : Env → T (List D)} {env : Env} : qNO f m env = (m env).bind f := (rfl)
@[simp] theorem retT_def {i : Nat} {m : Env → T D} {env : Env} : retT i m env = match env[i]? with
  | some (some (.ls xs)) => exS m (fun d env => .ret (.ro (.tl 0 [.non, d] xs))) env
  | _ => .fail := (rfl)
@[simp] theorem tlAt_tl {k j : Nat} {ds xs : List D} : tlAt k (.tl j ds xs) = if j = k then .ret (.ls xs) else .fail := (rfl)
@[simp] theorem catchS_ro {xm : Nat → Option Bool} {i j : Nat} {o : O} : catchS xm i j (.ro o) = .ret (.ro o) := (rfl)
@[simp] theorem O.toD_tl {k : Nat} {ds xs : List D} : (O.tl k ds xs).toD = .tup (ds.set k (.lst xs)) := (rfl)
theorem wb_runO {R : Nat → O → Prop} {E : Nat → D → Prop} {k N : Nat} {m : Env → T Fl} {ds : List D} (h : Wb k (m (startE N ds)) (fun j r => Wb j (endO r) R E) XF) : Wb k (runO N m ds) R E :=
  wb_bind (wb_nox h)
@[simp] theorem addO_def {i : Nat} {m : Env → T D} {env : Env} : addO i m env = match env[i]? with
  | some (some (.ls xs)) => (m env).bind fun d => match d with
    | .lst ys => grd (xs.length + ys.length ≤ big) (.ret (.ls (xs ++ ys)))
    | _ => .fail
  | _ => .fail := (rfl)
@[simp] theorem tupO_def {i : Nat} {env : Env} : tupO i env = match env[i]? with
  | some (some (.ls xs)) => .ret (.tup xs)
  | _ => .fail := (rfl)
@[simp] theorem lstO_def {i : Nat} {env : Env} : lstO i env = match env[i]? with
  | some (some (.ls xs)) => .ret (.ls xs)
  | _ => .fail := (rfl)
end Pu
set_option Elab.async false
set_option linter.all false
set_option maxRecDepth 100000
set_option maxHeartbeats 4000000
/-! machines as data; what the program's tests tell of any data -/
namespace Pu
open PySem L2 Stp NdefX LamX
open PyProof.Rows hiding St
/-- what isinstance is asked of -/
def kd : D → Bool
  | .non => true
  | .bl _ => true
  | .int _ => true
  | .str _ => true
  | .lst _ => true
  | .tup _ => true
  | .wt _ => true
  | .dK _ => true
  | .dT _ => true
  | _ => false
def isIntD : D → Bool
  | .int _ => true
  | .bl _ => true
  | _ => false
def isBoolD : D → Bool
  | .bl _ => true
  | _ => false
def isTupD : D → Bool
  | .tup _ => true
  | .wt _ => true
  | _ => false
def isLstD : D → Bool
  | .lst _ => true
  | _ => false
def isDictD : D → Bool
  | .dK _ => true
  | .dT _ => true
  | _ => false
def isStrD : D → Bool
  | .str _ => true
  | _ => false
/-- is_integer -/
def integerB : D → Bool
  | .int _ => true
  | _ => false
def rangeB (lo hi : Int) : D → Bool
  | .int i => decide (lo ≤ i) && decide (i < hi)
  | _ => false
/-- is_below -/
def belowB (d : D) (k : Int) : Bool := rangeB 0 k d
def tupItems : D → Option (List D)
  | .tup xs => some xs
  | .wt xs => some xs
  | _ => none
def wordB (many : Int) (d : D) : Bool := match tupItems d with
  | some xs => decide ((xs.length : Int) ≤ 12) && xs.all (rangeB 0 many)
  | none => false
def eventsB (kinds : Int) (d : D) : Bool := match tupItems d with
  | some xs => decide ((xs.length : Int) ≤ 8) && xs.all (rangeB (-2) kinds)
  | none => false
def inputB (kinds : Int) (d : D) : Bool := rangeB (-1) kinds d
def iD (l : List Int) : List D := l.map D.int
/-! lists -/
theorem blsD_map {α : Type} (f : α → Bool) : ∀ l : List α, blsD (l.map fun x => D.bl (f x)) = some (l.map f)
  | [] => rfl
  | a :: l => by
    show (blsD (l.map fun x => D.bl (f x))).map (f a :: ·) = _
    rw [blsD_map f l]
    rfl
@[simp] theorem allF_map {α : Type} (f : α → Bool) (l : List α) : allF [.lst (l.map fun x => D.bl (f x))] = .ret (.bl (l.all f)) := by
  show (match blsD (l.map fun x => D.bl (f x)) with
    | some bs => T.ret (D.bl (bs.all id))
    | none => .fail) = _
  rw [blsD_map f l]
  simp [List.all_map, Function.comp_def]
@[simp] theorem anyF_map {α : Type} (f : α → Bool) (l : List α) : anyF [.lst (l.map fun x => D.bl (f x))] = .ret (.bl (l.any f)) := by
  show (match blsD (l.map fun x => D.bl (f x)) with
    | some bs => T.ret (D.bl (bs.any id))
    | none => .fail) = _
  rw [blsD_map f l]
  simp [List.any_map, Function.comp_def]
theorem atI_nat {α : Type} {xs : List α} {i : Int} (h : 0 ≤ i) : atI xs i = xs[i.toNat]? := by
  unfold atI ixN
  rw [if_pos h]
  split
  · rfl
  · rw [List.getElem?_eq_none (by omega)]; rfl
theorem atI_last {α : Type} {xs : List α} (h : xs ≠ []) : atI xs (-1) = xs.getLast? := by
  have hl : 0 < xs.length := List.length_pos_iff.mpr h
  unfold atI ixN
  rw [if_neg (by decide), if_pos (by omega)]
  show xs[((-1 : Int) + xs.length).toNat]? = _
  rw [List.getLast?_eq_getElem?]
  congr 1
  omega
@[simp] theorem iD_length (l : List Int) : (iD l).length = l.length := List.length_map ..
mutual
/-- plain data -/
def okD : D → Bool
  | .non => true
  | .bl _ => true
  | .int _ => true
  | .str _ => true
  | .tup xs => okL xs
  | .lst xs => okL xs
  | .wt xs => okL xs
  | .dK kvs => okK kvs
  | .dT kvs => okT kvs
  | _ => false
def okL : List D → Bool
  | [] => true
  | d :: ds => okD d && okL ds
def okK : List (Key × D) → Bool
  | [] => true
  | (_, d) :: ds => okD d && okK ds
def okT : List (List Key × D) → Bool
  | [] => true
  | (_, d) :: ds => okD d && okT ds
end
theorem okD_kd {d : D} (h : okD d = true) : kd d = true := by cases d <;> first | rfl | (simp [okD] at h)
mutual
theorem okD_plain : ∀ {d : D}, okD d = true → plainD d = true
  | .non, _ => rfl
  | .bl _, _ => rfl
  | .int _, _ => rfl
  | .str _, _ => rfl
  | .tup xs, h => okL_plain (ds := xs) (by simpa [okD] using h)
  | .lst xs, h => okL_plain (ds := xs) (by simpa [okD] using h)
  | .wt xs, h => okL_plain (ds := xs) (by simpa [okD] using h)
  | .dK kvs, h => okK_plain (ds := kvs) (by simpa [okD] using h)
  | .dT kvs, h => okT_plain (ds := kvs) (by simpa [okD] using h)
  | .obj _ _, h => by simp [okD] at h
  | .exc _ _, h => by simp [okD] at h
  | .fn _ _, h => by simp [okD] at h
  | .ty _, h => by simp [okD] at h
  | .cls _, h => by simp [okD] at h
  | .pen, h => by simp [okD] at h
  | .scr, h => by simp [okD] at h
theorem okL_plain : ∀ {ds : List D}, okL ds = true → plainL ds = true
  | [], _ => rfl
  | d :: ds, h => by
    rw [okL, Bool.and_eq_true] at h
    rw [plainL, okD_plain h.1, okL_plain h.2]; rfl
theorem okK_plain : ∀ {ds : List (Key × D)}, okK ds = true → plainK ds = true
  | [], _ => rfl
  | (k, d) :: ds, h => by
    rw [okK, Bool.and_eq_true] at h
    rw [plainK, okD_plain h.1, okK_plain h.2]; rfl
theorem okT_plain : ∀ {ds : List (List Key × D)}, okT ds = true → plainT ds = true
  | [], _ => rfl
  | (k, d) :: ds, h => by
    rw [okT, Bool.and_eq_true] at h
    rw [plainT, okD_plain h.1, okT_plain h.2]; rfl
end
theorem okL_iff {ds : List D} : okL ds = true ↔ ∀ d ∈ ds, okD d = true := by
  induction ds with
  | nil => simp [okL]
  | cons d ds ih => rw [okL, Bool.and_eq_true, ih]; simp
@[simp] theorem okL_append {xs ys : List D} : okL (xs ++ ys) = (okL xs && okL ys) := by
  induction xs with
  | nil => simp [okL]
  | cons d ds ih => simp [okL, ih, Bool.and_assoc]
@[simp] theorem okD_int {i : Int} : okD (.int i) = true := rfl
@[simp] theorem okD_bl {i : Bool} : okD (.bl i) = true := rfl
@[simp] theorem okD_str {i : Str} : okD (.str i) = true := rfl
@[simp] theorem okD_non : okD .non = true := rfl
@[simp] theorem okD_tup {xs : List D} : okD (.tup xs) = okL xs := by rw [okD]
@[simp] theorem okD_wt {xs : List D} : okD (.wt xs) = okL xs := by rw [okD]
@[simp] theorem okD_lst {xs : List D} : okD (.lst xs) = okL xs := by rw [okD]
@[simp] theorem okD_dK {xs : List (Key × D)} : okD (.dK xs) = okK xs := by rw [okD]
@[simp] theorem okD_dT {xs : List (List Key × D)} : okD (.dT xs) = okT xs := by rw [okD]
@[simp] theorem okL_nil : okL [] = true := rfl
@[simp] theorem okL_cons {d : D} {ds : List D} : okL (d :: ds) = (okD d && okL ds) := by rw [okL]
@[simp] theorem okK_nil : okK [] = true := rfl
@[simp] theorem okL_iD (l : List Int) : okL (iD l) = true := okL_iff.mpr fun d h => by
  obtain ⟨i, _, rfl⟩ := List.mem_map.mp h
  rfl
@[simp] theorem okL_map {α : Type} {f : α → D} {l : List α} : okL (l.map f) = l.all fun x => okD (f x) := by
  induction l with
  | nil => rfl
  | cons a l ih => simp [okL, ih]
/-- is_move, is_row, are_rows -/
def moveB (fb : D → Bool) (n : Int) (d : D) : Bool := match tupItems d with
  | some [a, b] => fb a && rangeB 0 n b
  | _ => false
def rowB (fb : D → Bool) (moves n : Int) : D → Bool
  | .lst xs => decide ((xs.length : Int) = moves) && xs.all (moveB fb n)
  | _ => false
def rowsB (fb : D → Bool) (moves most : Int) : D → Bool
  | .lst xs => decide ((1 : Int) ≤ xs.length) && decide ((xs.length : Int) ≤ most) && xs.all (rowB fb moves xs.length)
  | _ => false
def numsB : D → D → Bool
  | .int s, .int d => decide (2 ≤ s) && decide (s ≤ 6) && (decide (1 ≤ d) && decide (d ≤ 6))
  | _, _ => false
/-! equality of ints -/
@[simp] theorem eqD_int {i j : Int} : eqD (.int i) (.int j) = .ret (.bl (i == j)) := by
  show grd (SeqAt.shaped (.int i) = true ∧ SeqAt.shaped (.int j) = true) (T.ret (D.bl (PyData.eqv (.int i) (.int j)))) = _
  rw [grd_pos ⟨rfl, rfl⟩]
  simp [PyData.eqv]
@[simp] theorem neD_int {i j : Int} : neD (.int i) (.int j) = .ret (.bl (!(i == j))) := by
  show grd (SeqAt.shaped (.int i) = true ∧ SeqAt.shaped (.int j) = true) (T.ret (D.bl (!PyData.eqv (.int i) (.int j)))) = _
  rw [grd_pos ⟨rfl, rfl⟩]
  simp [PyData.eqv]
@[simp] theorem eqD_str {x y : Str} : eqD (.str x) (.str y) = .ret (.bl (decide (x = y))) := (rfl)
@[simp] theorem neD_str {x y : Str} : neD (.str x) (.str y) = .ret (.bl (!decide (x = y))) := (rfl)
theorem rowsB_lst {fb : D → Bool} {k n : Int} {rs : List D} (h : rowsB fb k n (.lst rs) = true) : ∀ r ∈ rs, isLstD r = true := fun r m => by
  simp only [rowsB, Bool.and_eq_true, List.all_eq_true] at h
  have := h.2 r m
  cases r <;> first | rfl | (simp [rowB] at this)
/-! machines -/
abbrev Mv := List Int × Int
structure Mch where
  many : Int
  kinds : Int
  rows : List (List Mv)
def mvD (m : Mv) : D := .tup [.tup (iD m.1), .int m.2]
def rowD (r : List Mv) : D := .lst (r.map mvD)
def tabD (t : List (List Mv)) : D := .lst (t.map rowD)
/-- a law's machine -/
def lawD (m : Mch) : D := .tup [.int m.many, .int m.kinds, tabD m.rows]
/-- an object -/
def objD (c : Nat) (m : Mch) : D := .obj c [("letters", .int m.many), ("kinds", .int m.kinds), ("table", tabD m.rows)]
@[simp] theorem fldD_letters {cs : List Nat} {c : Nat} {m : Mch} : fldD "letters" cs (objD c m) = if c ∈ cs then .ret (.int m.many) else .fail := by simp [objD]
@[simp] theorem fldD_kinds {cs : List Nat} {c : Nat} {m : Mch} : fldD "kinds" cs (objD c m) = if c ∈ cs then .ret (.int m.kinds) else .fail := by simp [objD]
@[simp] theorem fldD_table {cs : List Nat} {c : Nat} {m : Mch} : fldD "table" cs (objD c m) = if c ∈ cs then .ret (tabD m.rows) else .fail := by simp [objD]
@[simp] theorem propD_objD {cs : List Nat} {mf : List D → T D} {c : Nat} {m : Mch} : propD cs mf (objD c m) = if c ∈ cs then (mf [objD c m]).noX else .fail := (rfl)
@[simp] theorem isCO_objD {c c' : Nat} {m : Mch} : isCO c (some (some (.fz (objD c' m)))) = (c' == c) := (rfl)
@[simp] theorem methF_step {c c' np : Nat} {mf : List D → T D} {ma : T (List D)} {m : Mch} : methF c "step" np mf ma (objD c' m) = if c' = c then ma.bind fun ds => grd (ds.length + 1 = np) (mf (objD c' m :: ds)) else .fail := by
  have h : List.lookup (Str.ofString "step") [(Str.ofString "letters", D.int m.many), (Str.ofString "kinds", .int m.kinds), (Str.ofString "table", tabD m.rows)] = none := by kernel_rfl
  show (if c' = c ∧ List.lookup (Str.ofString "step") [(Str.ofString "letters", D.int m.many), (Str.ofString "kinds", .int m.kinds), (Str.ofString "table", tabD m.rows)] = none then _ else _) = _
  rw [h]
  by_cases hc : c' = c <;> simp [hc, objD]
@[simp] theorem methF_place {c c' np : Nat} {mf : List D → T D} {ma : T (List D)} {m : Mch} : methF c "place" np mf ma (objD c' m) = if c' = c then ma.bind fun ds => grd (ds.length + 1 = np) (mf (objD c' m :: ds)) else .fail := by
  have h : List.lookup (Str.ofString "place") [(Str.ofString "letters", D.int m.many), (Str.ofString "kinds", .int m.kinds), (Str.ofString "table", tabD m.rows)] = none := by kernel_rfl
  show (if c' = c ∧ List.lookup (Str.ofString "place") [(Str.ofString "letters", D.int m.many), (Str.ofString "kinds", .int m.kinds), (Str.ofString "table", tabD m.rows)] = none then _ else _) = _
  rw [h]
  by_cases hc : c' = c <;> simp [hc, objD]
@[simp] theorem methF_check_state {c c' np : Nat} {mf : List D → T D} {ma : T (List D)} {m : Mch} : methF c "check_state" np mf ma (objD c' m) = if c' = c then ma.bind fun ds => grd (ds.length + 1 = np) (mf (objD c' m :: ds)) else .fail := by
  have h : List.lookup (Str.ofString "check_state") [(Str.ofString "letters", D.int m.many), (Str.ofString "kinds", .int m.kinds), (Str.ofString "table", tabD m.rows)] = none := by kernel_rfl
  show (if c' = c ∧ List.lookup (Str.ofString "check_state") [(Str.ofString "letters", D.int m.many), (Str.ofString "kinds", .int m.kinds), (Str.ofString "table", tabD m.rows)] = none then _ else _) = _
  rw [h]
  by_cases hc : c' = c <;> simp [hc, objD]
@[simp] theorem methF_with_step {c c' np : Nat} {mf : List D → T D} {ma : T (List D)} {m : Mch} : methF c "with_step" np mf ma (objD c' m) = if c' = c then ma.bind fun ds => grd (ds.length + 1 = np) (mf (objD c' m :: ds)) else .fail := by
  have h : List.lookup (Str.ofString "with_step") [(Str.ofString "letters", D.int m.many), (Str.ofString "kinds", .int m.kinds), (Str.ofString "table", tabD m.rows)] = none := by kernel_rfl
  show (if c' = c ∧ List.lookup (Str.ofString "with_step") [(Str.ofString "letters", D.int m.many), (Str.ofString "kinds", .int m.kinds), (Str.ofString "table", tabD m.rows)] = none then _ else _) = _
  rw [h]
  by_cases hc : c' = c <;> simp [hc, objD]
@[simp] theorem methF_changed {c c' np : Nat} {mf : List D → T D} {ma : T (List D)} {m : Mch} : methF c "changed" np mf ma (objD c' m) = if c' = c then ma.bind fun ds => grd (ds.length + 1 = np) (mf (objD c' m :: ds)) else .fail := by
  have h : List.lookup (Str.ofString "changed") [(Str.ofString "letters", D.int m.many), (Str.ofString "kinds", .int m.kinds), (Str.ofString "table", tabD m.rows)] = none := by kernel_rfl
  show (if c' = c ∧ List.lookup (Str.ofString "changed") [(Str.ofString "letters", D.int m.many), (Str.ofString "kinds", .int m.kinds), (Str.ofString "table", tabD m.rows)] = none then _ else _) = _
  rw [h]
  by_cases hc : c' = c <;> simp [hc, objD]
structure NumOk (m : Mch) : Prop where
  m1 : 2 ≤ m.many
  m2 : m.many ≤ 6
  k1 : 1 ≤ m.kinds
  k2 : m.kinds ≤ 6
def Within (lo hi : Int) (w : List Int) : Prop := ∀ x ∈ w, lo ≤ x ∧ x < hi
/-- the moves: how many in a row, what they are, how many states at most -/
structure TabOk (t : List (List Mv)) (moves : Int) (lo hi : Int) (ln : Nat) (most : Nat) : Prop where
  ne : 1 ≤ t.length
  le : t.length ≤ most
  row : ∀ r ∈ t, (r.length : Int) = moves
  mv : ∀ r ∈ t, ∀ v ∈ r, v.1.length ≤ ln ∧ Within lo hi v.1 ∧ 0 ≤ v.2 ∧ v.2 < t.length
structure WOk (m : Mch) : Prop where
  num : NumOk m
  tab : TabOk m.rows (m.kinds + 1) 0 m.many 12 24
structure ROk (m : Mch) : Prop where
  num : NumOk m
  tab : TabOk m.rows m.many (-2) m.kinds 8 40
theorem allRange {lo hi : Int} {w : List Int} (h : Within lo hi w) : (iD w).all (rangeB lo hi) = true := by
  rw [List.all_eq_true]
  intro d hd
  obtain ⟨i, hi, rfl⟩ := List.mem_map.mp hd
  simp [rangeB, h i hi]
theorem wordB_ok {many : Int} {w : List Int} (h1 : w.length ≤ 12) (h2 : Within 0 many w) : wordB many (.tup (iD w)) = true := by
  simp only [wordB, tupItems, allRange h2, Bool.and_true, decide_eq_true_eq, iD_length]
  omega
theorem eventsB_ok {kinds : Int} {w : List Int} (h1 : w.length ≤ 8) (h2 : Within (-2) kinds w) : eventsB kinds (.tup (iD w)) = true := by
  simp only [eventsB, tupItems, allRange h2, Bool.and_true, decide_eq_true_eq, iD_length]
  omega
theorem rowsB_ok {t : List (List Mv)} {moves lo hi : Int} {ln most : Nat} {fb : D → Bool} (h : TabOk t moves lo hi ln most) (hf : ∀ w : List Int, w.length ≤ ln → Within lo hi w → fb (.tup (iD w)) = true) : rowsB fb moves most (tabD t) = true := by
  have h1 := h.ne
  have h2 := h.le
  simp only [rowsB, tabD, List.length_map, Bool.and_eq_true, decide_eq_true_eq, List.all_eq_true]
  refine ⟨⟨by omega, by omega⟩, fun d hd => ?_⟩
  obtain ⟨r, hr, rfl⟩ := List.mem_map.mp hd
  simp only [rowB, rowD, List.length_map, Bool.and_eq_true, decide_eq_true_eq, List.all_eq_true]
  refine ⟨h.row r hr, fun d hd => ?_⟩
  obtain ⟨v, hv, rfl⟩ := List.mem_map.mp hd
  obtain ⟨g1, g2, g3, g4⟩ := h.mv r hr v hv
  simp [moveB, mvD, tupItems, rangeB, hf v.1 g1 g2, g3, g4]
theorem okD_mvD (v : Mv) : okD (mvD v) = true := by simp [mvD]
theorem okD_rowD (r : List Mv) : okD (rowD r) = true := by simp [rowD, okD_mvD]
theorem okD_tabD (t : List (List Mv)) : okD (tabD t) = true := by simp [tabD, okD_rowD]
theorem numsB_ok {m : Mch} (h : NumOk m) : numsB (.int m.many) (.int m.kinds) = true := by
  simp [numsB, h.m1, h.m2, h.k1, h.k2]
/-! draws -/
theorem wb_drawF {u : Int} {k : Nat} {Q : Nat → D → Prop} {E : Nat → D → Prop} (hk : 0 < k) (h0 : 0 < u) (h1 : u < 1073741824) (h : ∀ i : Int, 0 ≤ i → i < u → Q (k - 1) (.int i)) : Wb k (drawF [.pen, .int u]) Q E := by
  rw [drawF_def, if_pos ⟨h0, h1⟩]
  exact wb_draw hk (by omega) (by omega) fun d hd => wb_ret (h d (by omega) (by omega))
theorem map_of {α : Type} {f : α → D} {P : α → Prop} {r : List D} (h : ∀ (j : Nat) (y : D), r[j]? = some y → ∃ x, y = f x ∧ P x) : ∃ w : List α, r = w.map f ∧ ∀ x ∈ w, P x := by
  induction r with
  | nil => exact ⟨[], rfl, fun _ m => nomatch m⟩
  | cons d r ih =>
    obtain ⟨w, e, hw⟩ := ih fun j y e => h (j + 1) y (by simpa using e)
    obtain ⟨x, ex, hx⟩ := h 0 d rfl
    refine ⟨x :: w, by rw [ex, e]; rfl, fun y hy => ?_⟩
    rcases List.mem_cons.mp hy with rfl | hy
    · exact hx
    · exact hw y hy
theorem ints_of {lo hi : Int} {r : List D} (h : ∀ (j : Nat) (y : D), r[j]? = some y → ∃ x, y = .int x ∧ lo ≤ x ∧ x < hi) : ∃ w : List Int, r = iD w ∧ Within lo hi w := map_of h
/-- a drawn move -/
def MvP (lo hi ln n : Int) (v : Mv) : Prop := (v.1.length : Int) ≤ ln ∧ Within lo hi v.1 ∧ 0 ≤ v.2 ∧ v.2 < n
def MvX (lo hi ln n : Int) (y : D) : Prop := ∃ v, y = mvD v ∧ MvP lo hi ln n v
/-- a drawn row -/
def RowP (moves lo hi ln n : Int) (r : List Mv) : Prop := (r.length : Int) = moves ∧ ∀ v ∈ r, MvP lo hi ln n v
def I_tab (a b c d e n : Int) (mo lo hi : Int) (j : Nat) (env : Env) : Prop := ∃ (rs : List (List Mv)) (x y z : Option O), env = [some (.fz .pen), some (.fz (.int a)), some (.fz (.int b)), some (.fz (.int c)), some (.fz (.int d)), some (.fz (.int n)), some (.ls (rs.map rowD)), x, y, z] ∧ rs.length = j ∧ ∀ r ∈ rs, RowP mo lo hi e n r
theorem rows_ok {rs : List (List Mv)} {mo lo hi ln n most : Int} (hl : (rs.length : Int) = n) (h0 : 1 ≤ n) (hm : n ≤ most) (h : ∀ r ∈ rs, RowP mo lo hi ln n r) : TabOk rs mo lo hi ln.toNat most.toNat :=
  ⟨by omega, by omega, fun r hr => (h r hr).1, fun r hr v hv => ⟨by have := ((h r hr).2 v hv).1; omega, ((h r hr).2 v hv).2.1, ((h r hr).2 v hv).2.2.1, by have := ((h r hr).2 v hv).2.2.2; omega⟩⟩
/-! machines read of trees -/
def unInts : List D → Option (List Int)
  | [] => some []
  | .int i :: ds => (unInts ds).map (i :: ·)
  | _ :: _ => none
def unMv : D → Option Mv
  | .tup [.tup xs, .int i] => (unInts xs).map fun w => (w, i)
  | _ => none
def unAll {α : Type} (f : D → Option α) : List D → Option (List α)
  | [] => some []
  | d :: ds => match f d, unAll f ds with
    | some a, some l => some (a :: l)
    | _, _ => none
def unRow : D → Option (List Mv)
  | .lst xs => unAll unMv xs
  | _ => none
def unMch : D → Option Mch
  | .tup [.int a, .int b, .lst xs] => (unAll unRow xs).map fun t => ⟨a, b, t⟩
  | _ => none
theorem unInts_ok : ∀ {ds : List D} {w : List Int}, unInts ds = some w → ds = iD w
  | [], w, h => by cases h; rfl
  | .int i :: ds, w, h => by
    obtain ⟨u, e, rfl⟩ := Option.map_eq_some_iff.mp (show (unInts ds).map (i :: ·) = some w from h)
    rw [unInts_ok e]; rfl
  | .non :: _, _, h => by cases h
  | .bl _ :: _, _, h => by cases h
  | .str _ :: _, _, h => by cases h
  | .tup _ :: _, _, h => by cases h
  | .lst _ :: _, _, h => by cases h
  | .wt _ :: _, _, h => by cases h
  | .dK _ :: _, _, h => by cases h
  | .dT _ :: _, _, h => by cases h
  | .obj _ _ :: _, _, h => by cases h
  | .exc _ _ :: _, _, h => by cases h
  | .fn _ _ :: _, _, h => by cases h
  | .ty _ :: _, _, h => by cases h
  | .cls _ :: _, _, h => by cases h
  | .pen :: _, _, h => by cases h
  | .scr :: _, _, h => by cases h
theorem unMv_ok {d : D} {v : Mv} (h : unMv d = some v) : d = mvD v := by
  unfold unMv at h
  split at h
  · obtain ⟨u, e, rfl⟩ := Option.map_eq_some_iff.mp h
    rw [unInts_ok e]; rfl
  · cases h
theorem unAll_ok {α : Type} {f : D → Option α} {g : α → D} (hf : ∀ {d a}, f d = some a → d = g a) : ∀ {ds : List D} {l : List α}, unAll f ds = some l → ds = l.map g
  | [], l, h => by cases h; rfl
  | d :: ds, l, h => by
    unfold unAll at h
    split at h
    · rename_i a r e1 e2
      cases h
      rw [hf e1, unAll_ok hf e2]; rfl
    · cases h
theorem unRow_ok {d : D} {v : List Mv} (h : unRow d = some v) : d = rowD v := by
  cases d <;> first | (cases h; done) | exact congrArg D.lst (unAll_ok unMv_ok h)
theorem unMch_ok {d : D} {m : Mch} (h : unMch d = some m) : d = lawD m := by
  unfold unMch at h
  split at h
  · obtain ⟨u, e, rfl⟩ := Option.map_eq_some_iff.mp h
    rw [unAll_ok unRow_ok e]; rfl
  · cases h
def withinB (lo hi : Int) (w : List Int) : Bool := w.all fun x => decide (lo ≤ x) && decide (x < hi)
def tabB (t : List (List Mv)) (moves lo hi : Int) (ln most : Nat) : Bool := decide (1 ≤ t.length) && decide (t.length ≤ most) && t.all fun r => decide ((r.length : Int) = moves) && r.all fun v => decide (v.1.length ≤ ln) && withinB lo hi v.1 && decide (0 ≤ v.2) && decide (v.2 < t.length)
theorem withinB_ok {lo hi : Int} {w : List Int} (h : withinB lo hi w = true) : Within lo hi w := fun x hx => by
  have := List.all_eq_true.mp h x hx
  simpa using this
theorem tabB_ok {t : List (List Mv)} {moves lo hi : Int} {ln most : Nat} (h : tabB t moves lo hi ln most = true) : TabOk t moves lo hi ln most := by
  simp only [tabB, Bool.and_eq_true, decide_eq_true_eq, List.all_eq_true] at h
  exact ⟨h.1.1, h.1.2, fun r hr => (h.2 r hr).1, fun r hr v hv => ⟨((h.2 r hr).2 v hv).1.1.1, withinB_ok ((h.2 r hr).2 v hv).1.1.2, ((h.2 r hr).2 v hv).1.2, ((h.2 r hr).2 v hv).2⟩⟩
/-- a law's pair of machines -/
def duoD (w r : Mch) : D := .tup [lawD w, lawD r]
structure DuoOk (w r : Mch) (most : Int) : Prop where
  num : NumOk w
  few : w.many ≤ 4
  kin : w.kinds ≤ most
  many : r.many = w.many
  kinds : r.kinds = w.kinds
  wt : TabOk w.rows (w.kinds + 1) 0 w.many 2 3
  rt : TabOk r.rows w.many (-2) w.kinds 2 5
theorem TabOk.more {t : List (List Mv)} {moves lo hi : Int} {ln ln2 most most2 : Nat} (h : TabOk t moves lo hi ln most) (h1 : ln ≤ ln2) (h2 : most ≤ most2) : TabOk t moves lo hi ln2 most2 :=
  ⟨h.ne, Nat.le_trans h.le h2, h.row, fun r hr v hv => ⟨Nat.le_trans (h.mv r hr v hv).1 h1, (h.mv r hr v hv).2⟩⟩
theorem DuoOk.w {w r : Mch} {most : Int} (h : DuoOk w r most) : WOk w := ⟨h.num, h.wt.more (by decide) (by decide)⟩
theorem DuoOk.r {w r : Mch} {most : Int} (h : DuoOk w r most) : ROk r := ⟨⟨by rw [h.many]; exact h.num.m1, by rw [h.many]; exact h.num.m2, by rw [h.kinds]; exact h.num.k1, by rw [h.kinds]; exact h.num.k2⟩, by rw [h.many, h.kinds]; exact h.rt.more (by decide) (by decide)⟩
def duoB (most : Int) : T D → Bool
  | .ret (.tup [a, b]) => (match unMch a, unMch b with
    | some w, some r => decide (2 ≤ w.many) && decide (w.many ≤ 4) && decide (1 ≤ w.kinds) && decide (w.kinds ≤ 6) && decide (w.kinds ≤ most) && decide (r.many = w.many) && decide (r.kinds = w.kinds) && tabB w.rows (w.kinds + 1) 0 w.many 2 3 && tabB r.rows w.many (-2) w.kinds 2 5
    | _, _ => false)
  | _ => false
theorem duoB_ok {most : Int} {t : T D} (h : duoB most t = true) : ∃ w r, t = .ret (duoD w r) ∧ DuoOk w r most := by
  unfold duoB at h
  split at h
  · split at h
    · rename_i a b _ _ w r e1 e2
      simp only [Bool.and_eq_true, decide_eq_true_eq] at h
      obtain ⟨⟨⟨⟨⟨⟨⟨⟨h1, h2⟩, h3⟩, h4⟩, h5⟩, h6⟩, h7⟩, h8⟩, h9⟩ := h
      refine ⟨w, r, by rw [unMch_ok e1, unMch_ok e2]; rfl, ⟨h1, by omega, h3, h4⟩, h2, h5, h6, h7, tabB_ok h8, tabB_ok h9⟩
    · cases h
  · cases h
/-! looking at tables -/
/-- the move at a place -/
def mvAt (t : List (List Mv)) (i j : Nat) : Mv := (t.getD i []).getD j ([], 0)
def setMv (t : List (List Mv)) (i j : Nat) (v : Mv) : List (List Mv) := t.set i ((t.getD i []).set j v)
@[simp] theorem itemsD_tab (t : List (List Mv)) : itemsD (tabD t) = .ret (t.map rowD) := rfl
@[simp] theorem itemsD_row (r : List Mv) : itemsD (rowD r) = .ret (r.map mvD) := rfl
@[simp] theorem lenF_tab (t : List (List Mv)) : lenF [tabD t] = .ret (.int t.length) := by simp [tabD]
@[simp] theorem lenF_row (r : List Mv) : lenF [rowD r] = .ret (.int r.length) := by simp [rowD]
theorem ofO_get {α : Type} {f : α → D} {l : List α} {i : Int} {d : α} (h0 : 0 ≤ i) (h1 : i < l.length) : ofO (atI (l.map f) i) = .ret (f (l.getD i.toNat d)) := by
  rw [atI_nat h0, List.getElem?_map, List.getElem?_eq_getElem (by omega), List.getD_eq_getElem?_getD, List.getElem?_eq_getElem (by omega)]
  rfl
theorem ix_tab {t : List (List Mv)} {i : Int} (h0 : 0 ≤ i) (h1 : i < t.length) : ixD (tabD t) (.int i) = .ret (rowD (t.getD i.toNat [])) := ofO_get h0 h1
theorem ix_row {r : List Mv} {i : Int} (h0 : 0 ≤ i) (h1 : i < r.length) : ixD (rowD r) (.int i) = .ret (mvD (r.getD i.toNat ([], 0))) := ofO_get h0 h1
theorem ix_row_last {r : List Mv} (h : r ≠ []) : ixD (rowD r) (.int (-1)) = .ret (mvD (r.getD (r.length - 1) ([], 0))) := by
  have hl := List.length_pos_iff.mpr h
  show ofO (atI (r.map mvD) (-1)) = _
  rw [atI_last (by simpa using h), List.getLast?_map, List.getLast?_eq_getElem?, List.getElem?_eq_getElem (by omega), List.getD_eq_getElem?_getD, List.getElem?_eq_getElem (by omega)]
  rfl
@[simp] theorem ix_mv0 {v : Mv} : ixD (mvD v) (.int 0) = .ret (.tup (iD v.1)) := rfl
@[simp] theorem ix_mv1 {v : Mv} : ixD (mvD v) (.int 1) = .ret (.int v.2) := rfl
theorem TabOk.row_at {t : List (List Mv)} {moves lo hi : Int} {ln most : Nat} (h : TabOk t moves lo hi ln most) {i : Nat} (hi : i < t.length) : t.getD i [] ∈ t ∧ ((t.getD i []).length : Int) = moves := by
  have m : t.getD i [] ∈ t := by
    rw [List.getD_eq_getElem?_getD, List.getElem?_eq_getElem hi]
    exact List.getElem_mem ..
  exact ⟨m, h.row _ m⟩
theorem TabOk.at_ {t : List (List Mv)} {moves lo up : Int} {ln most : Nat} (h : TabOk t moves lo up ln most) {i j : Nat} (hi : i < t.length) (hj : (j : Int) < moves) : (mvAt t i j).1.length ≤ ln ∧ Within lo up (mvAt t i j).1 ∧ 0 ≤ (mvAt t i j).2 ∧ (mvAt t i j).2 < t.length := by
  obtain ⟨m, e⟩ := h.row_at hi
  have m2 : mvAt t i j ∈ t.getD i [] := by
    unfold mvAt
    generalize t.getD i [] = r at m e
    rw [List.getD_eq_getElem?_getD, List.getElem?_eq_getElem (by omega)]
    exact List.getElem_mem ..
  exact h.mv _ m _ m2
theorem setMv_len (t : List (List Mv)) (i j : Nat) (v : Mv) : (setMv t i j v).length = t.length := by simp [setMv]
theorem TabOk.set {t : List (List Mv)} {moves lo up : Int} {ln most : Nat} (h : TabOk t moves lo up ln most) {i j : Nat} {v : Mv} (hi : i < t.length) (h1 : v.1.length ≤ ln) (h2 : Within lo up v.1) (h3 : 0 ≤ v.2) (h4 : v.2 < t.length) : TabOk (setMv t i j v) moves lo up ln most := by
  obtain ⟨m, e⟩ := h.row_at hi
  refine ⟨by rw [setMv_len]; exact h.ne, by rw [setMv_len]; exact h.le, fun r hr => ?_, fun r hr u hu => ?_⟩
  · rcases List.mem_or_eq_of_mem_set hr with hr | rfl
    · exact h.row r hr
    · rw [List.length_set]; exact e
  · rw [setMv_len]
    rcases List.mem_or_eq_of_mem_set hr with hr | rfl
    · exact h.mv r hr u hu
    · rcases List.mem_or_eq_of_mem_set hu with hu | rfl
      · exact h.mv _ m u hu
      · exact ⟨h1, h2, h3, h4⟩
def rowsL (t : List (List Mv)) : List (List D) := t.map fun r => r.map mvD
theorem compLL_tab {i : Nat} {env : Env} {me : Env → T O} {t : List (List Mv)} (h : ∀ d, me (env.set i (some (.fz d))) = listO d) : compLL (.nm i) env me (t.map rowD) = .ret (rowsL t) := by
  rw [compLL_map (g := fun d => match d with | .lst l => l | _ => []) fun d hd => ?_]
  · rw [List.map_map]; rfl
  · obtain ⟨r, _, rfl⟩ := List.mem_map.mp hd
    exact ⟨_, rfl, h _⟩
@[simp] theorem rowsL_len (t : List (List Mv)) : (rowsL t).length = t.length := List.length_map ..
theorem rowsL_toD (t : List (List Mv)) : D.lst ((rowsL t).map .lst) = tabD t := by
  unfold rowsL tabD
  rw [List.map_map]
  rfl
theorem rowsL_get (t : List (List Mv)) (i : Nat) : (rowsL t)[i]?.getD [] = (t.getD i []).map mvD := by
  unfold rowsL
  rw [List.getElem?_map, List.getD_eq_getElem?_getD]
  cases t[i]? <;> rfl
theorem rowsL_set (t : List (List Mv)) (i j : Nat) (v : Mv) : (rowsL t).set i (((t.getD i []).map mvD).set j (mvD v)) = rowsL (setMv t i j v) := by
  unfold rowsL setMv
  rw [List.map_set, List.map_set]
def DuoX (most : Int) (d : D) : Prop := ∃ w r, d = duoD w r ∧ DuoOk w r most
theorem tab_set {t : List (List Mv)} {i j : Nat} {u : List Int} {x : Int} : D.lst ((List.map D.lst (rowsL t)).set i (D.lst (((rowsL t)[i]?.getD []).set j (.tup [.tup (iD u), .int x])))) = tabD (setMv t i j (u, x)) := by
  rw [rowsL_get, show D.tup [.tup (iD u), .int x] = mvD (u, x) from rfl, ← List.map_set, rowsL_set, rowsL_toD]
theorem rowsL_rowlen {t : List (List Mv)} {moves lo up : Int} {ln most : Nat} (h : TabOk t moves lo up ln most) {i : Nat} (hi : i < t.length) : (((rowsL t)[i]?.getD []).length : Int) = moves := by
  rw [rowsL_get, List.length_map]
  exact (h.row_at hi).2
@[simp] theorem flatTr_iD (w : List Int) : flatTr (.tup (iD w)) = true := by
  show flatTrL (iD w) = true
  induction w with
  | nil => rfl
  | cons x w ih => exact ih
theorem DuoOk.setW {w r : Mch} {most : Int} (h : DuoOk w r most) {i j : Nat} {u : List Int} {x : Int} (hi : i < w.rows.length) (h1 : u.length ≤ 2) (h2 : Within 0 w.many u) (h3 : 0 ≤ x) (h4 : x < w.rows.length) :
    DuoX most (.tup [.tup [.int w.many, .int w.kinds, tabD (setMv w.rows i j (u, x))], .tup [.int w.many, .int w.kinds, tabD r.rows]]) :=
  ⟨⟨w.many, w.kinds, setMv w.rows i j (u, x)⟩, ⟨w.many, w.kinds, r.rows⟩, rfl, ⟨⟨h.num.m1, h.num.m2, h.num.k1, h.num.k2⟩, h.few, h.kin, rfl, rfl, h.wt.set hi h1 h2 h3 h4, h.rt⟩⟩
theorem DuoOk.setR {w r : Mch} {most : Int} (h : DuoOk w r most) {i j : Nat} {u : List Int} {x : Int} (hi : i < r.rows.length) (h1 : u.length ≤ 2) (h2 : Within (-2) w.kinds u) (h3 : 0 ≤ x) (h4 : x < r.rows.length) :
    DuoX most (.tup [.tup [.int w.many, .int w.kinds, tabD w.rows], .tup [.int w.many, .int w.kinds, tabD (setMv r.rows i j (u, x))]]) :=
  ⟨⟨w.many, w.kinds, w.rows⟩, ⟨w.many, w.kinds, setMv r.rows i j (u, x)⟩, rfl, ⟨⟨h.num.m1, h.num.m2, h.num.k1, h.num.k2⟩, h.few, h.kin, rfl, rfl, h.wt, h.rt.set hi h1 h2 h3 h4⟩⟩
theorem cutG_take {α : Type} (xs : List α) {k : Int} (h : 0 ≤ k) : cutG xs none (some k) = xs.take k.toNat := by
  unfold cutG
  simp only [HT.sIx, if_neg (show ¬ k < 0 by omega)]
  rw [List.drop_zero, Nat.sub_zero, Nat.min_def]
  split
  · rfl
  · rw [List.take_of_length_le (Nat.le_refl _), List.take_of_length_le (by omega)]
theorem cutG_drop {α : Type} (xs : List α) {k : Int} (h : 0 ≤ k) : cutG xs (some k) none = xs.drop k.toNat := by
  unfold cutG
  simp only [HT.sIx, if_neg (show ¬ k < 0 by omega)]
  rw [List.take_of_length_le (by rw [List.length_drop]; omega), Nat.min_def]
  split
  · rfl
  · rw [List.drop_eq_nil_of_le (Nat.le_refl _), List.drop_eq_nil_of_le (by omega)]
/-- a machine of one state with empty moves -/
def blank (n : Nat) : List (List Mv) := [List.replicate n ([], 0)]
theorem blank_tab (n : Nat) : D.lst [D.lst (List.replicate n (.tup [.tup [], .int 0]))] = tabD (blank n) := by
  simp [blank, tabD, rowD, mvD, iD]
theorem blank_ok {n : Nat} {moves lo up : Int} {ln most : Nat} (h : (n : Int) = moves) (hm : 1 ≤ most) : TabOk (blank n) moves lo up ln most := by
  refine ⟨Nat.le_refl _, hm, fun r hr => ?_, fun r hr v hv => ?_⟩
  · rw [List.mem_singleton.mp hr, List.length_replicate]; exact h
  · rw [List.mem_singleton.mp hr] at hv
    rw [List.eq_of_mem_replicate hv]
    exact ⟨Nat.zero_le _, (fun _ m => nomatch m : Within lo up []), Int.le_refl _, show (0 : Int) < ((blank n).length : Int) by simp [blank]⟩
@[simp] theorem take_iD (n : Nat) (w : List Int) : (iD w).take n = iD (w.take n) := List.map_take.symm
@[simp] theorem drop_iD (n : Nat) (w : List Int) : (iD w).drop n = iD (w.drop n) := List.map_drop.symm
theorem iD_append (a b : List Int) : iD a ++ iD b = iD (a ++ b) := List.map_append.symm
theorem cutG_init {α : Type} (xs : List α) : cutG xs none (some (-1)) = xs.dropLast := by
  unfold cutG
  simp only [HT.sIx, if_pos (show (-1 : Int) < 0 by decide)]
  rw [List.drop_zero, Nat.sub_zero, List.dropLast_eq_take]
  congr 1
  omega
@[simp] theorem init_iD (w : List Int) : (iD w).dropLast = iD w.dropLast := by
  simp [iD, List.dropLast_eq_take, List.map_take]
end Pu
set_option Elab.async false
set_option linter.all false
set_option maxRecDepth 100000
set_option maxHeartbeats 4000000
/-! what repr and == are asked, of trees -/
namespace Pu
open PySem L2 Stp NdefX LamX
open PyProof.Rows hiding St
/-! repr -/
def lvKey : Key → Bool
  | .inl i => decide (i.natAbs < 10 ^ 40)
  | .inr x => x.cps.toList.all fun c => decide (c < 16 ^ 8)
def bkKey : Key → Nat
  | .inl _ => 0
  | .inr x => x.cps.size
mutual
def lvD : D → Bool
  | .non => true
  | .bl _ => true
  | .int i => decide (i.natAbs < 10 ^ 40)
  | .str x => x.cps.toList.all fun c => decide (c < 16 ^ 8)
  | .tup xs => lvL xs
  | .wt xs => lvL xs
  | .lst xs => lvL xs
  | .dK kvs => lvK kvs
  | .dT kvs => lvT kvs
  | _ => false
def lvL : List D → Bool
  | [] => true
  | d :: ds => lvD d && lvL ds
def lvK : List (Key × D) → Bool
  | [] => true
  | (k, d) :: ds => lvKey k && lvD d && lvK ds
def lvT : List (List Key × D) → Bool
  | [] => true
  | (k, d) :: ds => k.all lvKey && lvD d && lvT ds
end
mutual
def bkD : D → Nat
  | .str x => x.cps.size
  | .tup xs => bkL xs
  | .wt xs => bkL xs
  | .lst xs => bkL xs
  | .dK kvs => bkK kvs
  | .dT kvs => bkT kvs
  | _ => 0
def bkL : List D → Nat
  | [] => 0
  | d :: ds => bkD d + 1 + bkL ds
def bkK : List (Key × D) → Nat
  | [] => 0
  | (k, d) :: ds => bkKey k + bkD d + 2 + bkK ds
def bkT : List (List Key × D) → Nat
  | [] => 0
  | (k, d) :: ds => (k.map fun x => bkKey x + 1).sum + bkD d + 2 + bkT ds
end
mutual
def dpD : D → Nat
  | .tup xs => dpL xs + 1
  | .wt xs => dpL xs + 1
  | .lst xs => dpL xs + 1
  | .dK kvs => dpK kvs + 1
  | .dT kvs => dpT kvs + 1
  | _ => 0
def dpL : List D → Nat
  | [] => 0
  | d :: ds => max (dpD d) (dpL ds)
def dpK : List (Key × D) → Nat
  | [] => 0
  | (_, d) :: ds => max (dpD d) (dpK ds)
def dpT : List (List Key × D) → Nat
  | [] => 0
  | (_, d) :: ds => max (max 1 (dpD d)) (dpT ds)
end
theorem int_show {i : Int} (h : i.natAbs < 10 ^ 40) : (PyData.int i).showable = true ∧ (PyData.int i).leavesShort 45 = true := by
  constructor
  · simp only [PyData.showable, decide_eq_true_eq]
    by_cases h0 : i.natAbs = 0
    · rw [h0]; decide
    · exact (Nat.log2_lt h0).mpr (Nat.lt_of_lt_of_le h (Nat.le_trans (show 10 ^ 40 ≤ 2 ^ 200 by decide) (Nat.pow_le_pow_right (by decide) (by decide))))
  · have := int_text_length_le10 (a := i) (k := 40) (by decide) h
    simp only [PyData.leavesShort, PyData.shown]
    exact decide_eq_true (by rw [PySem.ofString_length]; omega)
theorem key_show {k : Key} (h : lvKey k = true) : (kP k).showable = true ∧ (kP k).leavesShort 45 = true ∧ (kP k).bulk = bkKey k ∧ (kP k).depth = 0 := by
  cases k with
  | inl i =>
    have := int_show (i := i) (by simpa [lvKey] using h)
    exact ⟨this.1, this.2, rfl, rfl⟩
  | inr x =>
    refine ⟨rfl, ?_, rfl, rfl⟩
    simpa [kP, PyData.leavesShort, lvKey] using h
theorem lkeys_show : ∀ {ks : List Key}, ks.all lvKey = true → PyData.showableAll (ks.map kP) = true ∧ PyData.leavesShortAll 45 (ks.map kP) = true ∧ PyData.bulkAll (ks.map kP) = (ks.map fun x => bkKey x + 1).sum ∧ PyData.depthAll (ks.map kP) = 0
  | [], _ => ⟨rfl, rfl, rfl, rfl⟩
  | k :: ks, h => by
    rw [List.all_cons, Bool.and_eq_true] at h
    obtain ⟨a1, a2, a3, a4⟩ := key_show h.1
    obtain ⟨b1, b2, b3, b4⟩ := lkeys_show h.2
    simp only [List.map_cons, PyData.showableAll, PyData.leavesShortAll, PyData.bulkAll, PyData.depthAll, a1, a2, a3, a4, b1, b2, b3, b4, List.sum_cons]
    exact ⟨by simp, by simp, by simp, by simp⟩
mutual
theorem pr_of : ∀ {d : D}, lvD d = true → ∃ x, d.pr = some x ∧ x.showable = true ∧ x.leavesShort 45 = true ∧ x.bulk = bkD d ∧ x.depth ≤ dpD d
  | .non, _ => ⟨_, rfl, rfl, rfl, rfl, Nat.le_refl _⟩
  | .bl _, _ => ⟨_, rfl, rfl, rfl, rfl, Nat.le_refl _⟩
  | .int i, h => ⟨_, rfl, (int_show (i := i) (by simpa [lvD] using h)).1, (int_show (i := i) (by simpa [lvD] using h)).2, rfl, Nat.le_refl _⟩
  | .str x, h => ⟨_, rfl, rfl, by simpa [PyData.leavesShort, lvD] using h, by simp [PyData.bulk, bkD], Nat.le_refl _⟩
  | .tup xs, h => by
    obtain ⟨ys, e, h1, h2, h3, h4⟩ := prL_of (ds := xs) (by simpa [lvD] using h)
    exact ⟨.tuple ys, by simp [D.pr, e], by simpa [PyData.showable] using h1, by simpa [PyData.leavesShort] using h2, by simpa [PyData.bulk, bkD] using h3, by simpa [PyData.depth, dpD] using h4⟩
  | .wt xs, h => by
    obtain ⟨ys, e, h1, h2, h3, h4⟩ := prL_of (ds := xs) (by simpa [lvD] using h)
    exact ⟨.tuple ys, by simp [D.pr, e], by simpa [PyData.showable] using h1, by simpa [PyData.leavesShort] using h2, by simpa [PyData.bulk, bkD] using h3, by simpa [PyData.depth, dpD] using h4⟩
  | .lst xs, h => by
    obtain ⟨ys, e, h1, h2, h3, h4⟩ := prL_of (ds := xs) (by simpa [lvD] using h)
    exact ⟨.list ys, by simp [D.pr, e], by simpa [PyData.showable] using h1, by simpa [PyData.leavesShort] using h2, by simpa [PyData.bulk, bkD] using h3, by simpa [PyData.depth, dpD] using h4⟩
  | .dK xs, h => by
    obtain ⟨ys, e, h1, h2, h3, h4⟩ := prK_of (ds := xs) (by simpa [lvD] using h)
    exact ⟨.dict ys, by simp [D.pr, e], by simpa [PyData.showable] using h1, by simpa [PyData.leavesShort] using h2, by simpa [PyData.bulk, bkD] using h3, by simpa [PyData.depth, dpD] using h4⟩
  | .dT xs, h => by
    obtain ⟨ys, e, h1, h2, h3, h4⟩ := prT_of (ds := xs) (by simpa [lvD] using h)
    exact ⟨.dict ys, by simp [D.pr, e], by simpa [PyData.showable] using h1, by simpa [PyData.leavesShort] using h2, by simpa [PyData.bulk, bkD] using h3, by simpa [PyData.depth, dpD] using h4⟩
  | .obj _ _, h => by simp [lvD] at h
  | .exc _ _, h => by simp [lvD] at h
  | .fn _ _, h => by simp [lvD] at h
  | .ty _, h => by simp [lvD] at h
  | .cls _, h => by simp [lvD] at h
  | .pen, h => by simp [lvD] at h
  | .scr, h => by simp [lvD] at h
theorem prL_of : ∀ {ds : List D}, lvL ds = true → ∃ xs, D.prL ds = some xs ∧ PyData.showableAll xs = true ∧ PyData.leavesShortAll 45 xs = true ∧ PyData.bulkAll xs = bkL ds ∧ PyData.depthAll xs ≤ dpL ds
  | [], _ => ⟨[], rfl, rfl, rfl, rfl, Nat.le_refl _⟩
  | d :: ds, h => by
    rw [lvL, Bool.and_eq_true] at h
    obtain ⟨x, e1, a1, a2, a3, a4⟩ := pr_of (d := d) h.1
    obtain ⟨xs, e2, b1, b2, b3, b4⟩ := prL_of (ds := ds) h.2
    refine ⟨x :: xs, by simp [D.prL, e1, e2], by simp [PyData.showableAll, a1, b1], by simp [PyData.leavesShortAll, a2, b2], by simp [PyData.bulkAll, bkL, a3, b3], ?_⟩
    simp only [PyData.depthAll, dpL]
    omega
theorem prK_of : ∀ {ds : List (Key × D)}, lvK ds = true → ∃ xs, D.prK ds = some xs ∧ PyData.showableKv xs = true ∧ PyData.leavesShortKv 45 xs = true ∧ PyData.bulkKv xs = bkK ds ∧ PyData.depthKv xs ≤ dpK ds
  | [], _ => ⟨[], rfl, rfl, rfl, rfl, Nat.le_refl _⟩
  | (k, d) :: ds, h => by
    rw [lvK, Bool.and_eq_true, Bool.and_eq_true] at h
    obtain ⟨k1, k2, k3, k4⟩ := key_show h.1.1
    obtain ⟨x, e1, a1, a2, a3, a4⟩ := pr_of (d := d) h.1.2
    obtain ⟨xs, e2, b1, b2, b3, b4⟩ := prK_of (ds := ds) h.2
    refine ⟨(kP k, x) :: xs, by simp [D.prK, e1, e2], by simp [PyData.showableKv, a1, b1, k1], by simp [PyData.leavesShortKv, a2, b2, k2], by simp [PyData.bulkKv, bkK, a3, b3, k3], ?_⟩
    simp only [PyData.depthKv, dpK, k4]
    omega
theorem prT_of : ∀ {ds : List (List Key × D)}, lvT ds = true → ∃ xs, D.prT ds = some xs ∧ PyData.showableKv xs = true ∧ PyData.leavesShortKv 45 xs = true ∧ PyData.bulkKv xs = bkT ds ∧ PyData.depthKv xs ≤ dpT ds
  | [], _ => ⟨[], rfl, rfl, rfl, rfl, Nat.le_refl _⟩
  | (k, d) :: ds, h => by
    rw [lvT, Bool.and_eq_true, Bool.and_eq_true] at h
    obtain ⟨k1, k2, k3, k4⟩ := lkeys_show h.1.1
    obtain ⟨x, e1, a1, a2, a3, a4⟩ := pr_of (d := d) h.1.2
    obtain ⟨xs, e2, b1, b2, b3, b4⟩ := prT_of (ds := ds) h.2
    refine ⟨(.tuple (k.map kP), x) :: xs, by simp [D.prT, e1, e2], by simp [PyData.showableKv, PyData.showable, a1, b1, k1], by simp [PyData.leavesShortKv, PyData.leavesShort, a2, b2, k2], by simp [PyData.bulkKv, PyData.bulk, bkT, a3, b3, k3], ?_⟩
    simp only [PyData.depthKv, PyData.depth, dpT, k4]
    omega
end
/-- the text of a tree -/
def shw (d : D) : Str := match d.pr with
  | some x => x.shown
  | none => ""
structure ShD (b p : Nat) (d : D) : Prop where
  lv : lvD d = true
  bk : bkD d ≤ b
  dp : dpD d ≤ p
theorem reprF_ok {b p : Nat} {d : D} (h : ShD b p d) (hb : b ≤ 20000 := by decide) (hp : p ≤ 60 := by decide) : reprF [d] = .ret (.str (shw d)) := by
  obtain ⟨x, e, h1, h2, h3, h4⟩ := pr_of h.lv
  have hl := PyData.shown_le_bulk 45 (by decide) x h2
  have hb2 := h.bk
  have hd := h.dp
  rw [h3] at hl
  show (match d.pr with
    | some x => grd (shwB x = true) (T.ret (D.str x.shown))
    | none => .fail) = _
  rw [show shw d = x.shown by unfold shw; rw [e]]
  rw [e]
  refine grd_pos ?_
  unfold shwB
  have h47 : (45 + 2) * bkD d ≤ 47 * 20000 := Nat.mul_le_mul (by decide) (by omega)
  rw [h1, decide_eq_true (show x.depth ≤ 60 by omega), decide_eq_true (show x.shown.length ≤ 1000000 by omega)]
  rfl
theorem ShD.more {b p b2 p2 : Nat} {d : D} (h : ShD b p d) (h1 : b ≤ b2) (h2 : p ≤ p2) : ShD b2 p2 d := ⟨h.lv, Nat.le_trans h.bk h1, Nat.le_trans h.dp h2⟩
theorem shD_int {i : Int} (h : i.natAbs < 10 ^ 40) : ShD 0 0 (.int i) := ⟨by simpa [lvD] using h, Nat.le_refl _, Nat.le_refl _⟩
theorem shL_of {b p : Nat} : ∀ {xs : List D}, (∀ x ∈ xs, ShD b p x) → lvL xs = true ∧ bkL xs ≤ xs.length * (b + 1) ∧ dpL xs ≤ p
  | [], _ => ⟨rfl, by simp [bkL], Nat.zero_le _⟩
  | x :: xs, h => by
    have h1 := h x (List.mem_cons_self ..)
    obtain ⟨a1, a2, a3⟩ := shL_of (xs := xs) fun y m => h y (List.mem_cons_of_mem _ m)
    have := h1.bk
    have := h1.dp
    refine ⟨by simp [lvL, h1.lv, a1], ?_, ?_⟩
    · rw [bkL, List.length_cons, Nat.succ_mul]; omega
    · rw [dpL]; omega
theorem shD_lst {b p n : Nat} {xs : List D} (hl : xs.length ≤ n) (h : ∀ x ∈ xs, ShD b p x) : ShD (n * (b + 1)) (p + 1) (.lst xs) := by
  obtain ⟨h1, h2, h3⟩ := shL_of h
  refine ⟨by simpa [lvD] using h1, ?_, by simpa [dpD] using h3⟩
  simp only [bkD]
  exact Nat.le_trans h2 (Nat.mul_le_mul_right _ hl)
theorem shD_tup {b p n : Nat} {xs : List D} (hl : xs.length ≤ n) (h : ∀ x ∈ xs, ShD b p x) : ShD (n * (b + 1)) (p + 1) (.tup xs) := by
  obtain ⟨h1, h2, h3⟩ := shL_of h
  refine ⟨by simpa [lvD] using h1, ?_, by simpa [dpD] using h3⟩
  simp only [bkD]
  exact Nat.le_trans h2 (Nat.mul_le_mul_right _ hl)
theorem shI {lo hi : Int} {w : List Int} (h : Within lo hi w) (h1 : (-1000000 : Int) ≤ lo) (h2 : hi ≤ 1000000) : ∀ x ∈ iD w, ShD 0 0 x := fun x hx => by
  obtain ⟨i, hi, rfl⟩ := List.mem_map.mp hx
  have := h i hi
  exact shD_int (by omega)
/-- closed trees -/
theorem shD_by {b p : Nat} {d : D} (h : (lvD d && Nat.ble (bkD d) b && Nat.ble (dpD d) p) = true) : ShD b p d := by
  simp only [Bool.and_eq_true] at h
  exact ⟨h.1.1, Nat.le_of_ble_eq_true h.1.2, Nat.le_of_ble_eq_true h.2⟩
/-! == -/
theorem pdL_iD : ∀ w : List Int, D.pdL (iD w) = some (w.map PyData.int)
  | [] => rfl
  | x :: w => by
    show (match D.pd (.int x), D.pdL (iD w) with
      | some a, some b => some (a :: b)
      | _, _ => none) = _
    rw [pdL_iD w]
    rfl
theorem lay_ints : ∀ w : List Int, PyData.canLayAll0 (w.map PyData.int) = true ∧ PyData.depthAll (w.map PyData.int) = 0
  | [] => ⟨rfl, rfl⟩
  | x :: w => by
    obtain ⟨h1, h2⟩ := lay_ints w
    simp [PyData.canLayAll0, PyData.canLay0, PyData.depthAll, PyData.depth, h1, h2]
theorem shaped_ints (w : List Int) : SeqAt.shaped (.list (w.map PyData.int)) = true := by
  obtain ⟨h1, h2⟩ := lay_ints w
  simp [SeqAt.shaped, PyData.canLay0, PyData.depth, h1, h2]
theorem shaped_intsT (w : List Int) : SeqAt.shaped (.tuple (w.map PyData.int)) = true := by
  obtain ⟨h1, h2⟩ := lay_ints w
  simp [SeqAt.shaped, PyData.canLay0, PyData.depth, h1, h2]
theorem eqv_ints : ∀ w u : List Int, PyData.eqvAll (w.map PyData.int) (u.map PyData.int) = decide (w = u)
  | [], [] => rfl
  | [], _ :: _ => rfl
  | _ :: _, [] => rfl
  | x :: w, y :: u => by
    simp only [List.map_cons, PyData.eqvAll, PyData.eqv, eqv_ints w u, List.cons.injEq]
    by_cases h : x = y <;> by_cases h2 : w = u <;> simp [h, h2]
theorem eqD_ints (w u : List Int) : eqD (.lst (iD w)) (.lst (iD u)) = .ret (.bl (decide (w = u))) := by
  show (match (D.pdL (iD w)).map PyData.list, (D.pdL (iD u)).map PyData.list with
    | some x, some y => grd (SeqAt.shaped x = true ∧ SeqAt.shaped y = true) (T.ret (D.bl (PyData.eqv x y)))
    | _, _ => .fail) = _
  rw [pdL_iD, pdL_iD]
  show grd _ _ = _
  rw [grd_pos ⟨shaped_ints w, shaped_ints u⟩, PyData.eqv, eqv_ints]
@[simp] theorem eqD_nil (w : List Int) : eqD (.lst (iD w)) (.lst []) = .ret (.bl (decide (w = []))) := eqD_ints w []
theorem neD_ints (w u : List Int) : neD (.lst (iD w)) (.lst (iD u)) = .ret (.bl (!decide (w = u))) := by
  show (match (D.pdL (iD w)).map PyData.list, (D.pdL (iD u)).map PyData.list with
    | some x, some y => grd (SeqAt.shaped x = true ∧ SeqAt.shaped y = true) (T.ret (D.bl (!PyData.eqv x y)))
    | _, _ => .fail) = _
  rw [pdL_iD, pdL_iD]
  show grd _ _ = _
  rw [grd_pos ⟨shaped_ints w, shaped_ints u⟩, PyData.eqv, eqv_ints]
@[simp] theorem neD_nil (w : List Int) : neD (.lst (iD w)) (.lst []) = .ret (.bl (!decide (w = []))) := neD_ints w []
theorem eqD_pd {d e : D} {x y : PyData} (h1 : d.pd = some x) (h2 : e.pd = some y) (s1 : SeqAt.shaped x = true) (s2 : SeqAt.shaped y = true) (hs : strQq d e = none := by rfl) : eqD d e = .ret (.bl (PyData.eqv x y)) := by
  unfold eqD
  rw [hs]
  show (match d.pd, e.pd with
    | some x, some y => grd (SeqAt.shaped x = true ∧ SeqAt.shaped y = true) (T.ret (D.bl (PyData.eqv x y)))
    | _, _ => .fail) = _
  rw [h1, h2]
  exact grd_pos ⟨s1, s2⟩
theorem neD_pd {d e : D} {x y : PyData} (h1 : d.pd = some x) (h2 : e.pd = some y) (s1 : SeqAt.shaped x = true) (s2 : SeqAt.shaped y = true) (hs : strQq d e = none := by rfl) : neD d e = .ret (.bl (!PyData.eqv x y)) := by
  unfold neD
  rw [hs]
  show (match d.pd, e.pd with
    | some x, some y => grd (SeqAt.shaped x = true ∧ SeqAt.shaped y = true) (T.ret (D.bl (!PyData.eqv x y)))
    | _, _ => .fail) = _
  rw [h1, h2]
  exact grd_pos ⟨s1, s2⟩
theorem pd_tupI (w : List Int) : (D.tup (iD w)).pd = some (.tuple (w.map .int)) := by
  show (D.pdL (iD w)).map PyData.tuple = _
  rw [pdL_iD]
  rfl
theorem eqD_intsT (w u : List Int) : eqD (.tup (iD w)) (.tup (iD u)) = .ret (.bl (decide (w = u))) := by
  rw [eqD_pd (pd_tupI w) (pd_tupI u) (shaped_intsT w) (shaped_intsT u), PyData.eqv, eqv_ints]
theorem neD_intsT (w u : List Int) : neD (.tup (iD w)) (.tup (iD u)) = .ret (.bl (!decide (w = u))) := by
  rw [neD_pd (pd_tupI w) (pd_tupI u) (shaped_intsT w) (shaped_intsT u), PyData.eqv, eqv_ints]
@[simp] theorem eqD_pair {a b c d : Int} : eqD (.tup [.int a, .int b]) (.tup [.int c, .int d]) = .ret (.bl (decide (a = c ∧ b = d))) := by
  have := eqD_intsT [a, b] [c, d]
  simp only [List.cons.injEq, and_true] at this
  exact this
@[simp] theorem neD_pair {a b c d : Int} : neD (.tup [.int a, .int b]) (.tup [.int c, .int d]) = .ret (.bl (!decide (a = c ∧ b = d))) := by
  have := neD_intsT [a, b] [c, d]
  simp only [List.cons.injEq, and_true] at this
  exact this
theorem range_ints {lo hi : Int} : ∀ {xs : List D}, xs.all (rangeB lo hi) = true → ∃ w, xs = iD w ∧ Within lo hi w
  | [], _ => ⟨[], rfl, fun _ m => nomatch m⟩
  | d :: xs, h => by
    rw [List.all_cons, Bool.and_eq_true] at h
    obtain ⟨w, rfl, hw⟩ := range_ints h.2
    cases d <;> first | (simp [rangeB] at h; done) | skip
    rename_i i
    refine ⟨i :: w, rfl, fun x hx => ?_⟩
    rcases List.mem_cons.mp hx with rfl | hx
    · simpa [rangeB] using h.1
    · exact hw x hx
/-- is_message -/
def endB (w : List Int) : Bool := decide (w = []) || decide (w.getLast? = some (-1))
def lastE (xs : List D) : Bool := xs.isEmpty || (match xs.getLast? with
    | some (.int i) => decide (i = -1)
    | _ => false)
def msgB (kinds : Int) : D → Bool
  | .lst xs => xs.all (rangeB (-1) kinds) && lastE xs
  | _ => false
theorem lastE_iD (w : List Int) : lastE (iD w) = endB w := by
  cases w with
  | nil => rfl
  | cons x w =>
    have e : (iD (x :: w)).isEmpty = false := rfl
    have e2 : (iD (x :: w)).getLast? = some (.int ((x :: w).getLast (by simp))) := by
      rw [iD, List.getLast?_map, List.getLast?_eq_some_getLast (by simp)]; rfl
    unfold lastE endB
    rw [e, e2, List.getLast?_eq_some_getLast (by simp)]
    simp
theorem last_iD {w : List Int} (h : w ≠ []) : ofO (atI (iD w) (-1)) = .ret (.int (w.getLast h)) := by
  rw [atI_last (by simpa [iD] using h), iD, List.getLast?_map, List.getLast?_eq_some_getLast h]
  rfl
def lineB (many : Int) : D → Bool
  | .lst xs => xs.all (wordB many)
  | _ => false
def lnD : D → Nat
  | .lst xs => xs.length
  | .tup xs => xs.length
  | .wt xs => xs.length
  | _ => 0
end Pu
set_option Elab.async false
set_option linter.all false
set_option maxRecDepth 100000
set_option maxHeartbeats 4000000
/-! what machines do -/
namespace Pu
open PySem L2 Stp NdefX LamX
open PyProof.Rows hiding St
def tupI (w : List Int) : D := .tup (iD w)
def wplace (m : Mch) (x : Int) : Nat := if x = -1 then m.kinds.toNat else x.toNat
def wmove (m : Mch) (s x : Int) : Mv := mvAt m.rows s.toNat (wplace m x)
def rmove (m : Mch) (s x : Int) : Mv := mvAt m.rows s.toNat x.toNat
/-- the words written, and the state behind them -/
def wrote (m : Mch) : Int → List Int → List (List Int) × Int
  | s, [] => ([], s)
  | s, x :: xs => ((wmove m s x).1 :: (wrote m (wmove m s x).2 xs).1, (wrote m (wmove m s x).2 xs).2)
/-- the events told, and the state behind them -/
def heard (m : Mch) : Int → List Int → List Int × Int
  | s, [] => ([], s)
  | s, x :: xs => ((rmove m s x).1 ++ (heard m (rmove m s x).2 xs).1, (heard m (rmove m s x).2 xs).2)
/-- a state of the machine -/
def InSt (m : Mch) (s : Int) : Prop := 0 ≤ s ∧ s < m.rows.length
theorem wmove_ok {m : Mch} (h : WOk m) {s x : Int} (hs : InSt m s) (h1 : -1 ≤ x) (h2 : x < m.kinds) : (wmove m s x).1.length ≤ 12 ∧ Within 0 m.many (wmove m s x).1 ∧ InSt m (wmove m s x).2 := by
  have k1 := h.num.k1
  have hp : ((wplace m x : Nat) : Int) < m.kinds + 1 := by unfold wplace; split <;> omega
  obtain ⟨g1, g2, g3, g4⟩ := h.tab.at_ (i := s.toNat) (j := wplace m x) (by have := hs.1; have := hs.2; omega) hp
  exact ⟨g1, g2, g3, g4⟩
theorem rmove_ok {m : Mch} (h : ROk m) {s x : Int} (hs : InSt m s) (h1 : 0 ≤ x) (h2 : x < m.many) : (rmove m s x).1.length ≤ 8 ∧ Within (-2) m.kinds (rmove m s x).1 ∧ InSt m (rmove m s x).2 := by
  obtain ⟨g1, g2, g3, g4⟩ := h.tab.at_ (i := s.toNat) (j := x.toNat) (by have := hs.1; have := hs.2; omega) (by omega)
  exact ⟨g1, g2, g3, g4⟩
theorem inSt0 {m : Mch} {moves lo up : Int} {ln most : Nat} (h : TabOk m.rows moves lo up ln most) : InSt m 0 := ⟨Int.le_refl _, by have := h.ne; omega⟩
theorem Within.tail {lo up x : Int} {w : List Int} (h : Within lo up (x :: w)) : Within lo up w := fun y hy => h y (List.mem_cons_of_mem _ hy)
theorem Within.head {lo up x : Int} {w : List Int} (h : Within lo up (x :: w)) : lo ≤ x ∧ x < up := h x (List.mem_cons_self ..)
theorem Within.app {lo up : Int} {w u : List Int} (h : Within lo up w) (h2 : Within lo up u) : Within lo up (w ++ u) := fun y hy => (List.mem_append.mp hy).elim (h y) (h2 y)
theorem Within.nil {lo up : Int} : Within lo up [] := fun _ m => nomatch m
theorem Within.cons {lo up x : Int} {w : List Int} (h1 : lo ≤ x ∧ x < up) (h : Within lo up w) : Within lo up (x :: w) := fun y hy => (List.mem_cons.mp hy).elim (fun e => e ▸ h1) (h y)
theorem Within.more {lo up lo2 up2 : Int} {w : List Int} (h : Within lo up w) (h1 : lo2 ≤ lo) (h2 : up ≤ up2) : Within lo2 up2 w := fun y hy => by have := h y hy; omega
/-- words of a machine -/
def Words (many : Int) (l : List (List Int)) : Prop := ∀ w ∈ l, w.length ≤ 12 ∧ Within 0 many w
theorem wrote_ok {m : Mch} (h : WOk m) : ∀ {xs : List Int} {s : Int}, InSt m s → Within (-1) m.kinds xs → Words m.many (wrote m s xs).1 ∧ InSt m (wrote m s xs).2 ∧ (wrote m s xs).1.length = xs.length
  | [], s, hs, _ => ⟨(fun _ m => nomatch m), hs, rfl⟩
  | x :: xs, s, hs, hx => by
    obtain ⟨g1, g2, g3⟩ := wmove_ok h hs hx.head.1 hx.head.2
    obtain ⟨i1, i2, i3⟩ := wrote_ok h (xs := xs) g3 hx.tail
    refine ⟨fun w hw => ?_, i2, congrArg (· + 1) i3⟩
    rcases List.mem_cons.mp hw with rfl | hw
    · exact ⟨g1, g2⟩
    · exact i1 w hw
theorem heard_ok {m : Mch} (h : ROk m) : ∀ {xs : List Int} {s : Int}, InSt m s → Within 0 m.many xs → Within (-2) m.kinds (heard m s xs).1 ∧ InSt m (heard m s xs).2 ∧ (heard m s xs).1.length ≤ 8 * xs.length
  | [], s, hs, _ => ⟨Within.nil, hs, by simp [heard]⟩
  | x :: xs, s, hs, hx => by
    obtain ⟨g1, g2, g3⟩ := rmove_ok h hs hx.head.1 hx.head.2
    obtain ⟨i1, i2, i3⟩ := heard_ok h (xs := xs) g3 hx.tail
    refine ⟨g2.app i1, i2, ?_⟩
    simp only [heard, List.length_append, List.length_cons]
    omega
theorem heard_app {m : Mch} : ∀ {xs ys : List Int} {s : Int}, heard m s (xs ++ ys) = ((heard m s xs).1 ++ (heard m (heard m s xs).2 ys).1, (heard m (heard m s xs).2 ys).2)
  | [], ys, s => rfl
  | x :: xs, ys, s => by
    simp only [List.cons_append, heard, heard_app (xs := xs), List.append_assoc]
theorem wrote_app {m : Mch} : ∀ {xs ys : List Int} {s : Int}, wrote m s (xs ++ ys) = ((wrote m s xs).1 ++ (wrote m (wrote m s xs).2 ys).1, (wrote m (wrote m s xs).2 ys).2)
  | [], ys, s => rfl
  | x :: xs, ys, s => by
    simp only [List.cons_append, wrote, wrote_app (xs := xs)]
theorem drop_at {α : Type} {xs : List α} {j : Nat} {x : α} (h : xs[j]? = some x) : xs.drop j = x :: xs.drop (j + 1) := by
  obtain ⟨h1, h2⟩ := List.getElem?_eq_some_iff.mp h
  rw [← h2]
  exact List.drop_eq_getElem_cons h1
theorem iD_at {w : List Int} {j : Nat} {d : D} (h : (iD w)[j]? = some d) : ∃ x, d = .int x ∧ w[j]? = some x := by
  unfold iD at h
  rw [List.getElem?_map] at h
  obtain ⟨x, h1, rfl⟩ := Option.map_eq_some_iff.mp h
  exact ⟨x, rfl, h1⟩
theorem map_at {α : Type} {f : α → D} {w : List α} {j : Nat} {d : D} (h : (w.map f)[j]? = some d) : ∃ x, d = f x ∧ w[j]? = some x := by
  rw [List.getElem?_map] at h
  obtain ⟨x, h1, rfl⟩ := Option.map_eq_some_iff.mp h
  exact ⟨x, rfl, h1⟩
theorem Within.at {lo up x : Int} {w : List Int} {j : Nat} (h : Within lo up w) (e : w[j]? = some x) : lo ≤ x ∧ x < up := h x (List.mem_of_getElem? e)
/-- the frames handed over -/
def handedF : List Int → List Int → List (List Int)
  | _, [] => []
  | b, x :: xs => if x = -1 then b :: handedF [] xs else if x = -2 then handedF [] xs else handedF (b ++ [x]) xs
/-- a move of a table, in the program -/
theorem ix_move {t : List (List Mv)} {moves lo up : Int} {ln most : Nat} (h : TabOk t moves lo up ln most) {s j : Int} (h0 : 0 ≤ s) (h1 : s < t.length) (j0 : 0 ≤ j) (j1 : j < moves) : (ixD (tabD t) (.int s)).bind (fun d => ixD d (.int j)) = .ret (mvD (mvAt t s.toNat j.toNat)) := by
  have e := (h.row_at (i := s.toNat) (by omega)).2
  rw [ix_tab h0 h1, T.bind_ret, ix_row j0 (by omega)]
  rfl
theorem ix_move_last {t : List (List Mv)} {moves lo up : Int} {ln most : Nat} (h : TabOk t moves lo up ln most) {s : Int} (h0 : 0 ≤ s) (h1 : s < t.length) (hm : 1 ≤ moves) : (ixD (tabD t) (.int s)).bind (fun d => ixD d (.int (-1))) = .ret (mvD (mvAt t s.toNat (moves - 1).toNat)) := by
  have e := (h.row_at (i := s.toNat) (by omega)).2
  rw [ix_tab h0 h1, T.bind_ret, ix_row_last (by intro z; rw [z] at e; simp at e; omega)]
  rw [show (t.getD s.toNat []).length - 1 = (moves - 1).toNat by omega]
  rfl
theorem compL2_flat {pt : Pt} {env : Env} {tt : Env → T Bool} {it1 : Env → T (List D)} {pt1 : Pt} {vs1 : List Nat} {tt1 : Env → T Bool} {me : Env → T D} {g : D → List D} : ∀ {ds : List D}, (∀ d ∈ ds, ∃ env' es, putP pt d env = some env' ∧ tt env' = .ret true ∧ it1 env' = .ret es ∧ es.length ≤ big2 ∧ compL pt1 (wipeE env' vs1) tt1 me es = .ret (g d)) → compL2 pt env tt it1 pt1 vs1 tt1 me ds = .ret (ds.flatMap g)
  | [], _ => rfl
  | d :: ds, h => by
    obtain ⟨env', es, e1, e2, e3, e4, e5⟩ := h d (List.mem_cons_self ..)
    unfold compL2
    rw [e1]
    dsimp only
    rw [e2, T.noX_ret, T.bind_ret, if_pos rfl, e3, T.noX_ret, T.bind_ret, grd_pos e4, e5, T.bind_ret, compL2_flat fun d m => h d (List.mem_cons_of_mem _ m), T.bind_ret]
    rfl
def tupXs : D → List D
  | .tup xs => xs
  | _ => []
theorem flat_tupI (l : List (List Int)) : (l.map tupI).flatMap tupXs = iD l.flatten := by
  induction l with
  | nil => rfl
  | cons w l ih =>
    rw [List.map_cons, List.flatMap_cons, ih, List.flatten_cons, ← iD_append]
    rfl
theorem Words.flat {many : Int} {l : List (List Int)} (h : Words many l) : Within 0 many l.flatten := fun x hx => by
  obtain ⟨w, hw, hx⟩ := List.mem_flatten.mp hx
  exact (h w hw).2 x hx
/-! loops that write and read -/
def I_wr (m : Mch) (o0 o2 : D) (s0 : Int) (xs : List Int) (j : Nat) (env : Env) : Prop := ∃ (s : Int) (ws : List (List Int)) (x4 x5 : Option O), env = [some (.fz o0), some (.fz (.int s)), some (.fz o2), some (.ls (ws.map tupI)), x4, x5] ∧ InSt m s ∧ ws.length = j ∧ wrote m s0 xs = (ws ++ (wrote m s (xs.drop j)).1, (wrote m s (xs.drop j)).2)
theorem l_wr {m : Mch} (h : WOk m) {o0 o2 : D} {s : Int} {xs : List Int} (hs : InSt m s) (hx : Within (-1) m.kinds xs) (hl : xs.length ≤ big) {body : Env → T Fl}
    (hb : ∀ (s x : Int) (ws : List D) (x5 : Option O), InSt m s → -1 ≤ x → x < m.kinds → ws.length ≤ big → body [some (.fz o0), some (.fz (.int s)), some (.fz o2), some (.ls ws), some (.fz (.int x)), x5] = .ret (.nx [some (.fz o0), some (.fz (.int (wmove m s x).2)), some (.fz o2), some (.ls (ws ++ [tupI (wmove m s x).1])), some (.fz (.int x)), some (.fz (tupI (wmove m s x).1))])) {x4 x5 : Option O} :
    Wb 0 (forL (.nm 4) body (iD xs) [some (.fz o0), some (.fz (.int s)), some (.fz o2), some (.ls []), x4, x5]) (fun _ r => ∃ e x4 x5, r = .nx e ∧ e = [some (.fz o0), some (.fz (.int (wrote m s xs).2)), some (.fz o2), some (.ls ((wrote m s xs).1.map tupI)), x4, x5]) XF := by
  refine wb_forI 0 (I_wr m o0 o2 s xs) ⟨s, [], _, _, rfl, hs, rfl, by simp⟩ (by simp) ?_ ?_
  · rintro j d env hd ⟨s1, ws, y4, y5, rfl, i1, i2, i3⟩
    obtain ⟨x, rfl, hj⟩ := iD_at hd
    obtain ⟨b1, b2⟩ := hx.at hj
    have hjl : j < xs.length := (List.getElem?_eq_some_iff.mp hj).1
    refine ⟨_, rfl, wb_eq (hb s1 x (ws.map tupI) y5 i1 b1 b2 (by rw [List.length_map]; omega)) (wb_ret ?_)⟩
    obtain ⟨g1, g2, g3⟩ := wmove_ok h i1 b1 b2
    refine ⟨_, ws ++ [(wmove m s1 x).1], _, _, by rw [List.map_append]; rfl, g3, by simp [i2], ?_⟩
    rw [i3, drop_at hj]
    simp [wrote]
  · rintro e ⟨s1, ws, y4, y5, rfl, i1, i2, i3⟩
    rw [iD_length, List.drop_length] at i3
    refine ⟨_, y4, y5, rfl, ?_⟩
    rw [i3]
    simp [wrote]
def I_rd (acc : List D → O) (m : Mch) (o0 o2 : D) (s0 : Int) (xs : List Int) (j : Nat) (env : Env) : Prop := ∃ (s : Int) (es : List Int) (x4 x5 : Option O), env = [some (.fz o0), some (.fz (.int s)), some (.fz o2), some (acc (iD es)), x4, x5] ∧ InSt m s ∧ es.length ≤ 8 * j ∧ heard m s0 xs = (es ++ (heard m s (xs.drop j)).1, (heard m s (xs.drop j)).2)
theorem l_rd (acc : List D → O) {m : Mch} (h : ROk m) {o0 o2 : D} {s : Int} {xs : List Int} (hs : InSt m s) (hx : Within 0 m.many xs) (hl : 8 * xs.length ≤ 900000) {body : Env → T Fl}
    (hb : ∀ (s x : Int) (es : List D) (x5 : Option O), InSt m s → 0 ≤ x → x < m.many → es.length + (rmove m s x).1.length ≤ big → body [some (.fz o0), some (.fz (.int s)), some (.fz o2), some (acc es), some (.fz (.int x)), x5] = .ret (.nx [some (.fz o0), some (.fz (.int (rmove m s x).2)), some (.fz o2), some (acc (es ++ iD (rmove m s x).1)), some (.fz (.int x)), some (.fz (tupI (rmove m s x).1))])) {x4 x5 : Option O} :
    Wb 0 (forL (.nm 4) body (iD xs) [some (.fz o0), some (.fz (.int s)), some (.fz o2), some (acc []), x4, x5]) (fun _ r => ∃ e x4 x5, r = .nx e ∧ e = [some (.fz o0), some (.fz (.int (heard m s xs).2)), some (.fz o2), some (acc (iD (heard m s xs).1)), x4, x5]) XF := by
  refine wb_forI 0 (I_rd acc m o0 o2 s xs) ⟨s, [], _, _, rfl, hs, by simp, by simp⟩ (by simp) ?_ ?_
  · rintro j d env hd ⟨s1, es, y4, y5, rfl, i1, i2, i3⟩
    obtain ⟨x, rfl, hj⟩ := iD_at hd
    obtain ⟨b1, b2⟩ := hx.at hj
    have hjl : j < xs.length := (List.getElem?_eq_some_iff.mp hj).1
    obtain ⟨g1, g2, g3⟩ := rmove_ok h i1 b1 b2
    refine ⟨_, rfl, wb_eq (hb s1 x (iD es) y5 i1 b1 b2 (by rw [iD_length]; unfold big; omega)) (wb_ret ?_)⟩
    refine ⟨_, es ++ (rmove m s1 x).1, _, _, by rw [iD_append], g3, by rw [List.length_append]; omega, ?_⟩
    rw [i3, drop_at hj]
    simp [heard]
  · rintro e ⟨s1, es, y4, y5, rfl, i1, i2, i3⟩
    rw [iD_length, List.drop_length] at i3
    refine ⟨_, y4, y5, rfl, ?_⟩
    rw [i3]
    simp [heard]
theorem ix_rows {t : List (List Mv)} {moves lo up : Int} {ln most : Nat} (h : TabOk t moves lo up ln most) {s j : Int} (h0 : 0 ≤ s) (h1 : s < t.length) (j0 : 0 ≤ j) (j1 : j < moves) : ∃ R, ixD (tabD t) (.int s) = .ret (rowD R) ∧ ixD (rowD R) (.int j) = .ret (mvD (mvAt t s.toNat j.toNat)) := by
  have e := (h.row_at (i := s.toNat) (by omega)).2
  exact ⟨_, ix_tab h0 h1, ix_row j0 (by omega)⟩
theorem flat_le {many : Int} : ∀ {l : List (List Int)}, Words many l → l.flatten.length ≤ 12 * l.length
  | [], _ => by simp
  | w :: l, h => by
    have h1 := (h w (List.mem_cons_self ..)).1
    have h2 := flat_le (l := l) fun u hu => h u (List.mem_cons_of_mem _ hu)
    rw [List.flatten_cons, List.length_append, List.length_cons]
    omega
end Pu
set_option Elab.async false
set_option linter.all false
set_option maxRecDepth 100000
set_option maxHeartbeats 4000000
/-! == of trees without bools and dicts -/
namespace Pu
open PySem L2 Stp NdefX LamX
open PyProof.Rows hiding St
mutual
def nbD : D → Bool
  | .non => true
  | .int _ => true
  | .str x => PyData.strOk x
  | .tup xs => nbL xs
  | .lst xs => nbL xs
  | _ => false
def nbL : List D → Bool
  | [] => true
  | d :: ds => nbD d && nbL ds
end
mutual
theorem pd_of : ∀ {d : D}, nbD d = true → ∃ x, d.pd = some x ∧ x.canLay0 = true ∧ x.depth ≤ dpD d
  | .non, _ => ⟨_, rfl, rfl, Nat.le_refl _⟩
  | .int i, _ => ⟨_, rfl, rfl, Nat.le_refl _⟩
  | .str x, h => ⟨_, rfl, by simpa [PyData.canLay0, nbD] using h, Nat.le_refl _⟩
  | .tup xs, h => by
    obtain ⟨ys, e, h1, h2⟩ := pdL_of (ds := xs) (by simpa [nbD] using h)
    exact ⟨.tuple ys, by simp [D.pd, e], by simpa [PyData.canLay0] using h1, by simpa [PyData.depth, dpD] using h2⟩
  | .lst xs, h => by
    obtain ⟨ys, e, h1, h2⟩ := pdL_of (ds := xs) (by simpa [nbD] using h)
    exact ⟨.list ys, by simp [D.pd, e], by simpa [PyData.canLay0] using h1, by simpa [PyData.depth, dpD] using h2⟩
  | .bl _, h => by simp [nbD] at h
  | .wt _, h => by simp [nbD] at h
  | .dK _, h => by simp [nbD] at h
  | .dT _, h => by simp [nbD] at h
  | .obj _ _, h => by simp [nbD] at h
  | .exc _ _, h => by simp [nbD] at h
  | .fn _ _, h => by simp [nbD] at h
  | .ty _, h => by simp [nbD] at h
  | .cls _, h => by simp [nbD] at h
  | .pen, h => by simp [nbD] at h
  | .scr, h => by simp [nbD] at h
theorem pdL_of : ∀ {ds : List D}, nbL ds = true → ∃ xs, D.pdL ds = some xs ∧ PyData.canLayAll0 xs = true ∧ PyData.depthAll xs ≤ dpL ds
  | [], _ => ⟨[], rfl, rfl, Nat.le_refl _⟩
  | d :: ds, h => by
    rw [nbL, Bool.and_eq_true] at h
    obtain ⟨x, e1, a1, a2⟩ := pd_of (d := d) h.1
    obtain ⟨xs, e2, b1, b2⟩ := pdL_of (ds := ds) h.2
    refine ⟨x :: xs, by simp [D.pdL, e1, e2], by simp [PyData.canLayAll0, a1, b1], ?_⟩
    simp only [PyData.depthAll, dpL]
    omega
end
mutual
def nbP : PyData → Bool
  | .none => true
  | .int _ => true
  | .str _ => true
  | .tuple xs => nbPL xs
  | .list xs => nbPL xs
  | _ => false
def nbPL : List PyData → Bool
  | [] => true
  | d :: ds => nbP d && nbPL ds
end
mutual
theorem eqvP : ∀ {x y : PyData}, nbP x = true → nbP y = true → (PyData.eqv x y = true ↔ x = y)
  | .none, y, hx, hy => by cases y <;> simp [PyData.eqv, nbP] at *
  | .int i, y, hx, hy => by cases y <;> simp [PyData.eqv, nbP] at *
  | .str i, y, hx, hy => by cases y <;> simp [PyData.eqv, nbP] at *
  | .bool _, _, hx, _ => by simp [nbP] at hx
  | .dict _, _, hx, _ => by simp [nbP] at hx
  | .tuple xs, .tuple ys, hx, hy => by
    rw [PyData.eqv, eqvPL (by simpa [nbP] using hx) (by simpa [nbP] using hy)]
    simp
  | .list xs, .list ys, hx, hy => by
    rw [PyData.eqv, eqvPL (by simpa [nbP] using hx) (by simpa [nbP] using hy)]
    simp
  | .tuple xs, .none, hx, hy => by simp [PyData.eqv]
  | .tuple xs, .int _, hx, hy => by simp [PyData.eqv]
  | .tuple xs, .str _, hx, hy => by simp [PyData.eqv]
  | .tuple xs, .bool _, hx, hy => by simp [PyData.eqv]
  | .tuple xs, .list _, hx, hy => by simp [PyData.eqv]
  | .tuple xs, .dict _, hx, hy => by simp [PyData.eqv]
  | .list xs, .none, hx, hy => by simp [PyData.eqv]
  | .list xs, .int _, hx, hy => by simp [PyData.eqv]
  | .list xs, .str _, hx, hy => by simp [PyData.eqv]
  | .list xs, .bool _, hx, hy => by simp [PyData.eqv]
  | .list xs, .tuple _, hx, hy => by simp [PyData.eqv]
  | .list xs, .dict _, hx, hy => by simp [PyData.eqv]
theorem eqvPL : ∀ {xs ys : List PyData}, nbPL xs = true → nbPL ys = true → (PyData.eqvAll xs ys = true ↔ xs = ys)
  | [], [], _, _ => by simp [PyData.eqvAll]
  | [], _ :: _, _, _ => by simp [PyData.eqvAll]
  | _ :: _, [], _, _ => by simp [PyData.eqvAll]
  | x :: xs, y :: ys, hx, hy => by
    rw [nbPL, Bool.and_eq_true] at hx hy
    rw [PyData.eqvAll, Bool.and_eq_true, eqvP hx.1 hy.1, eqvPL hx.2 hy.2]
    simp
end
mutual
theorem pd_nbP : ∀ {d : D} {x : PyData}, nbD d = true → d.pd = some x → nbP x = true
  | .non, _, _, e => by cases e; rfl
  | .int _, _, _, e => by cases e; rfl
  | .str _, _, _, e => by cases e; rfl
  | .tup xs, _, h, e => by
    obtain ⟨ys, e1, rfl⟩ := Option.map_eq_some_iff.mp (show (D.pdL xs).map PyData.tuple = _ from e)
    simpa [nbP] using pdL_nbP (by simpa [nbD] using h) e1
  | .lst xs, _, h, e => by
    obtain ⟨ys, e1, rfl⟩ := Option.map_eq_some_iff.mp (show (D.pdL xs).map PyData.list = _ from e)
    simpa [nbP] using pdL_nbP (by simpa [nbD] using h) e1
  | .bl _, _, h, _ => by simp [nbD] at h
  | .wt _, _, h, _ => by simp [nbD] at h
  | .dK _, _, h, _ => by simp [nbD] at h
  | .dT _, _, h, _ => by simp [nbD] at h
  | .obj _ _, _, h, _ => by simp [nbD] at h
  | .exc _ _, _, h, _ => by simp [nbD] at h
  | .fn _ _, _, h, _ => by simp [nbD] at h
  | .ty _, _, h, _ => by simp [nbD] at h
  | .cls _, _, h, _ => by simp [nbD] at h
  | .pen, _, h, _ => by simp [nbD] at h
  | .scr, _, h, _ => by simp [nbD] at h
theorem pdL_nbP : ∀ {ds : List D} {xs : List PyData}, nbL ds = true → D.pdL ds = some xs → nbPL xs = true
  | [], _, _, e => by cases e; rfl
  | d :: ds, _, h, e => by
    obtain ⟨a, b, h1, h2, rfl⟩ := pr_cons (show (match d.pd, D.pdL ds with | some a, some b => some (a :: b) | _, _ => none) = some _ from e)
    rw [nbL, Bool.and_eq_true] at h
    rw [nbPL, pd_nbP h.1 h1, pdL_nbP h.2 h2]; rfl
end
mutual
/-- the tree of data without bools -/
def unP : PyData → D
  | .int i => .int i
  | .str x => .str x
  | .tuple xs => .tup (unPL xs)
  | .list xs => .lst (unPL xs)
  | _ => .non
def unPL : List PyData → List D
  | [] => []
  | x :: xs => unP x :: unPL xs
end
mutual
theorem unP_pd : ∀ {d : D} {x : PyData}, nbD d = true → d.pd = some x → unP x = d
  | .non, _, _, e => by cases e; rfl
  | .int _, _, _, e => by cases e; rfl
  | .str _, _, _, e => by cases e; rfl
  | .tup xs, _, h, e => by
    obtain ⟨ys, e1, rfl⟩ := Option.map_eq_some_iff.mp (show (D.pdL xs).map PyData.tuple = _ from e)
    rw [unP, unPL_pd (by simpa [nbD] using h) e1]
  | .lst xs, _, h, e => by
    obtain ⟨ys, e1, rfl⟩ := Option.map_eq_some_iff.mp (show (D.pdL xs).map PyData.list = _ from e)
    rw [unP, unPL_pd (by simpa [nbD] using h) e1]
  | .bl _, _, h, _ => by simp [nbD] at h
  | .wt _, _, h, _ => by simp [nbD] at h
  | .dK _, _, h, _ => by simp [nbD] at h
  | .dT _, _, h, _ => by simp [nbD] at h
  | .obj _ _, _, h, _ => by simp [nbD] at h
  | .exc _ _, _, h, _ => by simp [nbD] at h
  | .fn _ _, _, h, _ => by simp [nbD] at h
  | .ty _, _, h, _ => by simp [nbD] at h
  | .cls _, _, h, _ => by simp [nbD] at h
  | .pen, _, h, _ => by simp [nbD] at h
  | .scr, _, h, _ => by simp [nbD] at h
theorem unPL_pd : ∀ {ds : List D} {xs : List PyData}, nbL ds = true → D.pdL ds = some xs → unPL xs = ds
  | [], _, _, e => by cases e; rfl
  | d :: ds, _, h, e => by
    obtain ⟨a, b, h1, h2, rfl⟩ := pr_cons (show (match d.pd, D.pdL ds with | some a, some b => some (a :: b) | _, _ => none) = some _ from e)
    rw [nbL, Bool.and_eq_true] at h
    rw [unPL, unP_pd h.1 h1, unPL_pd h.2 h2]
end
theorem eqv_nb {d e : D} {x y : PyData} (hd : nbD d = true) (he : nbD e = true) (hx : d.pd = some x) (hy : e.pd = some y) : PyData.eqv x y = true ↔ d = e := by
  rw [eqvP (pd_nbP hd hx) (pd_nbP he hy)]
  constructor
  · intro h
    rw [← unP_pd hd hx, ← unP_pd he hy, h]
  · rintro rfl
    rw [hx] at hy
    exact Option.some.inj hy
/-- two trees without bools compared -/
theorem eqD_nb {d e : D} (hd : nbD d = true) (he : nbD e = true) (h1 : dpD d ≤ 64) (h2 : dpD e ≤ 64) : ∃ b, eqD d e = .ret (.bl b) ∧ neD d e = .ret (.bl (!b)) ∧ (b = true ↔ d = e) := by
  obtain ⟨x, ex, lx, px⟩ := pd_of hd
  obtain ⟨y, ey, ly, py⟩ := pd_of he
  cases q : strQq d e with
  | some b =>
    obtain ⟨a, c, rfl, rfl, rfl⟩ := strq_some q
    refine ⟨decide (a = c), by simp, by simp, by simp⟩
  | none =>
    have sx : SeqAt.shaped x = true := by
      unfold SeqAt.shaped
      rw [lx, decide_eq_true (show x.depth ≤ 64 by omega)]; rfl
    have sy : SeqAt.shaped y = true := by
      unfold SeqAt.shaped
      rw [ly, decide_eq_true (show y.depth ≤ 64 by omega)]; rfl
    exact ⟨PyData.eqv x y, eqD_pd ex ey sx sy q, neD_pd ex ey sx sy q, eqv_nb hd he ex ey⟩
theorem eqD_same {d : D} (hd : nbD d = true) (h1 : dpD d ≤ 64) : eqD d d = .ret (.bl true) := by
  obtain ⟨b, e, _, h⟩ := eqD_nb hd hd h1 h1
  rw [e, h.mpr rfl]
theorem neD_same {d : D} (hd : nbD d = true) (h1 : dpD d ≤ 64) : neD d d = .ret (.bl false) := by
  obtain ⟨b, _, e, h⟩ := eqD_nb hd hd h1 h1
  rw [e, h.mpr rfl]; rfl
theorem eqD_diff {d e : D} (hd : nbD d = true) (he : nbD e = true) (h1 : dpD d ≤ 64) (h2 : dpD e ≤ 64) (hn : d ≠ e) : eqD d e = .ret (.bl false) ∧ neD d e = .ret (.bl true) := by
  obtain ⟨b, e1, e2, h⟩ := eqD_nb hd he h1 h2
  have hb : b = false := Bool.eq_false_iff.mpr fun z => hn (h.mp z)
  rw [e1, e2, hb]
  exact ⟨rfl, rfl⟩
theorem nbL_iff {ds : List D} : nbL ds = true ↔ ∀ d ∈ ds, nbD d = true := by
  induction ds with
  | nil => simp [nbL]
  | cons d ds ih => rw [nbL, Bool.and_eq_true, ih]; simp
theorem dpL_le {p : Nat} {ds : List D} (h : ∀ d ∈ ds, dpD d ≤ p) : dpL ds ≤ p := by
  induction ds with
  | nil => exact Nat.zero_le _
  | cons d ds ih =>
    rw [dpL]
    have h1 := h d (List.mem_cons_self ..)
    have h2 := ih fun x hx => h x (List.mem_cons_of_mem _ hx)
    omega
/-- no bools, at most p deep -/
structure NbD (p : Nat) (d : D) : Prop where
  nb : nbD d = true
  dp : dpD d ≤ p
theorem nb_int (i : Int) : NbD 0 (.int i) := ⟨rfl, Nat.le_refl _⟩
theorem NbD.more {p q : Nat} {d : D} (h : NbD p d) (hq : p ≤ q) : NbD q d := ⟨h.nb, Nat.le_trans h.dp hq⟩
theorem nb_tup {p : Nat} {ds : List D} (h : ∀ d ∈ ds, NbD p d) : NbD (p + 1) (.tup ds) := ⟨by simpa [nbD] using nbL_iff.mpr fun d m => (h d m).nb, by have := dpL_le fun d m => (h d m).dp; simp only [dpD]; omega⟩
theorem nb_lst {p : Nat} {ds : List D} (h : ∀ d ∈ ds, NbD p d) : NbD (p + 1) (.lst ds) := ⟨by simpa [nbD] using nbL_iff.mpr fun d m => (h d m).nb, by have := dpL_le fun d m => (h d m).dp; simp only [dpD]; omega⟩
theorem nb_iD (w : List Int) : ∀ d ∈ iD w, NbD 0 d := fun d hd => by
  obtain ⟨i, _, rfl⟩ := List.mem_map.mp hd
  exact nb_int i
theorem nb_mvD (v : Mv) : NbD 2 (mvD v) := nb_tup fun d hd => by
  simp only [List.mem_cons, List.not_mem_nil, or_false] at hd
  rcases hd with rfl | rfl
  · exact nb_tup (nb_iD _)
  · exact (nb_int _).more (by decide)
theorem nb_tabD (t : List (List Mv)) : NbD 4 (tabD t) := nb_lst fun d hd => by
  obtain ⟨r, _, rfl⟩ := List.mem_map.mp hd
  exact nb_lst fun d hd => by
    obtain ⟨v, _, rfl⟩ := List.mem_map.mp hd
    exact nb_mvD v
theorem nb_words (l : List (List Int)) : NbD 2 (.lst (l.map tupI)) := nb_lst fun d hd => by
  obtain ⟨w, _, rfl⟩ := List.mem_map.mp hd
  exact nb_tup (nb_iD w)
theorem iD_inj {a b : List Int} (h : iD a = iD b) : a = b := by
  induction a generalizing b with
  | nil => cases b with
    | nil => rfl
    | cons _ _ => cases h
  | cons x a ih => cases b with
    | nil => cases h
    | cons y b =>
      rw [iD, iD, List.map_cons, List.map_cons, List.cons.injEq] at h
      rw [D.int.inj h.1, ih h.2]
theorem mvD_inj {a b : Mv} (h : mvD a = mvD b) : a = b := by
  unfold mvD at h
  simp only [D.tup.injEq, List.cons.injEq, D.int.injEq, and_true] at h
  exact Prod.ext (iD_inj h.1) h.2
theorem map_inj {α : Type} {f : α → D} (hf : ∀ a b, f a = f b → a = b) : ∀ {l r : List α}, l.map f = r.map f → l = r
  | [], [], _ => rfl
  | [], _ :: _, h => by cases h
  | _ :: _, [], h => by cases h
  | x :: l, y :: r, h => by
    rw [List.map_cons, List.map_cons, List.cons.injEq] at h
    rw [hf _ _ h.1, map_inj hf h.2]
theorem rowD_inj {a b : List Mv} (h : rowD a = rowD b) : a = b := map_inj (fun _ _ => mvD_inj) (D.lst.inj h)
theorem tabD_inj {a b : List (List Mv)} (h : tabD a = tabD b) : a = b := map_inj (fun _ _ => rowD_inj) (D.lst.inj h)
/-! objects compared -/
theorem oeD_obj {neg : Bool} {L : EqL} {tys : List KT} {c : Nat} {fs : List (Str × D)} {e : D} {mf : List D → T D} {t : KT} {b : Bool} (h1 : L.look c = some mf) (h2 : kt e = some t) (h3 : t ∈ tys) (h : mf [.obj c fs, e] = .ret (.bl b)) : oeD neg L tys c fs e = .ret (.bl (if neg then !b else b)) := by
  unfold oeD
  rw [h1, h2]
  dsimp only
  rw [if_pos h3, h, T.noX_ret, T.bind_ret, boolT_bl]
theorem neU_objD {L : EqL} {tys : List KT} {c : Nat} {m : Mch} {e : D} {mf : List D → T D} {t : KT} {b : Bool} (h1 : L.look c = some mf) (h2 : kt e = some t) (h3 : t ∈ tys) (h : mf [objD c m, e] = .ret (.bl b)) : neU L tys (objD c m) e = .ret (.bl (!b)) := oeD_obj (neg := true) h1 h2 h3 h
theorem eqU_objD {L : EqL} {tys : List KT} {c : Nat} {m : Mch} {e : D} {mf : List D → T D} {t : KT} {b : Bool} (h1 : L.look c = some mf) (h2 : kt e = some t) (h3 : t ∈ tys) (h : mf [objD c m, e] = .ret (.bl b)) : eqU L tys (objD c m) e = .ret (.bl b) := oeD_obj (neg := false) h1 h2 h3 h
end Pu
set_option Elab.async false
set_option linter.all false
set_option maxRecDepth 100000
set_option maxHeartbeats 4000000
/-! machines that bring all messages back: a finite test -/
namespace Pu
open PySem L2 Stp NdefX LamX
open PyProof.Rows hiding St
/-- a state of the writer, a state of the reader, inputs that are not told yet -/
abbrev Tri := Int × Int × List Int
def dropPre : List Int → List Int → Option (List Int)
  | [], p => some p
  | _ :: _, [] => none
  | a :: as, b :: bs => if a = b then dropPre as bs else none
theorem dropPre_ok : ∀ {as p q : List Int}, dropPre as p = some q → p = as ++ q
  | [], p, q, h => by cases h; rfl
  | a :: as, [], q, h => by cases h
  | a :: as, b :: bs, q, h => by
    unfold dropPre at h
    split at h
    · rename_i e
      rw [e, dropPre_ok h, List.cons_append]
    · cases h
def trStep (w r : Mch) (q : Tri) (x : Int) : Option Tri :=
  match wmove w q.1 x with
  | (u, s) => match heard r q.2.1 u with
    | (v, t) => match dropPre v (q.2.2 ++ [x]) with
      | some p => some (s, t, p)
      | none => none
def insOf (k : Int) : List Int := (-1) :: (List.range k.toNat).map Int.ofNat
def closedB (w r : Mch) (S : List Tri) : Bool := S.all fun q => (insOf w.kinds).all fun x => match trStep w r q x with
  | some z => decide (z ∈ S) && (!decide (x = -1) || z.2.2.isEmpty)
  | none => false
def growT (w r : Mch) : Nat → List Tri → List Tri → List Tri
  | 0, S, _ => S
  | _, S, [] => S
  | n + 1, S, q :: todo => (fun new => growT w r n (S ++ new) (todo ++ new)) (((insOf w.kinds).filterMap fun x => trStep w r q x).foldl (fun acc z => if z ∈ S ∨ z ∈ acc then acc else acc ++ [z]) [])
def bringsB (w r : Mch) : Bool := (fun S => decide ((0, 0, []) ∈ S) && closedB w r S) (growT w r 300 [(0, 0, [])] [(0, 0, [])])
theorem mem_insOf {k x : Int} (h1 : -1 ≤ x) (h2 : x < k) : x ∈ insOf k := by
  unfold insOf
  by_cases h : x = -1
  · rw [h]; exact List.mem_cons_self ..
  · exact List.mem_cons_of_mem _ (List.mem_map.mpr ⟨x.toNat, List.mem_range.mpr (by omega), by show ((x.toNat : Nat) : Int) = x; omega⟩)
theorem closed_at {w r : Mch} {S : List Tri} (h : closedB w r S = true) {q : Tri} (hq : q ∈ S) {x : Int} (h1 : -1 ≤ x) (h2 : x < w.kinds) : ∃ p', q.2.2 ++ [x] = (heard r q.2.1 (wmove w q.1 x).1).1 ++ p' ∧ ((wmove w q.1 x).2, (heard r q.2.1 (wmove w q.1 x).1).2, p') ∈ S ∧ (x = -1 → p' = []) := by
  have h3 := List.all_eq_true.mp (List.all_eq_true.mp h q hq) x (mem_insOf h1 h2)
  split at h3
  · rename_i z e
    simp only [Bool.and_eq_true, decide_eq_true_eq, Bool.or_eq_true, Bool.not_eq_true', decide_eq_false_iff_not] at h3
    unfold trStep at e
    simp only at e
    split at e
    · rename_i p' e2
      cases e
      exact ⟨p', dropPre_ok e2, h3.1, fun hx => by
        rcases h3.2 with h4 | h4
        · exact absurd hx h4
        · exact List.isEmpty_iff.mp h4⟩
    · cases e
  · cases h3
theorem brings_go {w r : Mch} {S : List Tri} (h : closedB w r S = true) : ∀ {xs : List Int} {q : Tri}, q ∈ S → Within (-1) w.kinds xs → ∃ p', q.2.2 ++ xs = (heard r q.2.1 (wrote w q.1 xs).1.flatten).1 ++ p' ∧ (xs.getLast? = some (-1) → p' = [])
  | [], q, _, _ => ⟨q.2.2, by simp [wrote, heard], fun h => by cases h⟩
  | x :: xs, q, hq, hx => by
    obtain ⟨p1, e1, hm, hend⟩ := closed_at h hq hx.head.1 hx.head.2
    obtain ⟨p2, e2, hend2⟩ := brings_go h (xs := xs) hm hx.tail
    refine ⟨p2, ?_, fun hl => ?_⟩
    · simp only [wrote, List.flatten_cons, heard_app]
      rw [List.append_assoc, ← e2, ← List.append_assoc, ← e1, List.append_assoc, List.singleton_append]
    · cases xs with
      | nil =>
        have hx1 : x = -1 := by simpa using hl
        have e3 := hend hx1
        simp only [wrote, List.flatten_nil, heard, List.append_nil, List.nil_append] at e2
        rw [← e2, e3]
      | cons y ys => exact hend2 (by rwa [List.getLast?_cons_cons] at hl)
theorem brings_ok {w r : Mch} (h : bringsB w r = true) {xs : List Int} (hx : Within (-1) w.kinds xs) (he : endB xs = true) : (heard r 0 (wrote w 0 xs).1.flatten).1 = xs := by
  unfold bringsB at h
  simp only [Bool.and_eq_true, decide_eq_true_eq] at h
  obtain ⟨p, e, hl⟩ := brings_go h.2 h.1 hx
  simp only [List.nil_append] at e
  unfold endB at he
  simp only [Bool.or_eq_true, decide_eq_true_eq] at he
  rcases he with rfl | he
  · rfl
  · rw [hl he, List.append_nil] at e
    exact e.symm
end Pu
set_option Elab.async false
set_option linter.all false
set_option maxRecDepth 100000
set_option maxHeartbeats 4000000
/-! all frames up to a length: what the guards by sums do with them -/
namespace Pu
open PySem L2 Stp NdefX LamX
open PyProof.Rows hiding St
/-- lw, lr in states s, t behind the frame f; out: what was written; ev: what was told -/
def framesB (w r : Mch) (k : Nat) : Nat → Int → Int → List Int → List Int → List Int → Bool
  | 0, s, t, out, ev, f => endsB w r k s t out ev f
  | n + 1, s, t, out, ev, f => endsB w r k s t out ev f && (List.range k).all fun x => (fun u v => framesB w r k n u.2 v.2 (out ++ u.1) (ev ++ v.1) (f ++ [(x : Int)])) (wmove w s x) (rmove r t x)
where
  endsB (w r : Mch) (k : Nat) (s t : Int) (out ev f : List Int) : Bool := decide (out ++ (wmove w s (-1)).1 = f ++ [f.sum % (k : Int), (k : Int)]) && (List.range k).all fun l => decide (handedF [] (ev ++ (heard r t [(l : Int), (k : Int)]).1) = if f.sum % (k : Int) = (l : Int) then [f] else [])
theorem framesB_ok {w r : Mch} {k : Nat} : ∀ {n : Nat} {s t : Int} {out ev f g : List Int}, framesB w r k n s t out ev f = true → g.length ≤ n → Within 0 k g →
    out ++ (wrote w s (g ++ [-1])).1.flatten = f ++ g ++ [(f ++ g).sum % (k : Int), (k : Int)] ∧ ∀ l : Int, 0 ≤ l → l < k → handedF [] (ev ++ (heard r t (g ++ [l, (k : Int)])).1) = if (f ++ g).sum % (k : Int) = l then [f ++ g] else []
  | n, s, t, out, ev, f, [], h, _, _ => by
    have h1 : framesB.endsB w r k s t out ev f = true := by
      cases n with
      | zero => exact h
      | succ n => exact (Bool.and_eq_true _ _ ▸ h : _ ∧ _).1
    unfold framesB.endsB at h1
    simp only [Bool.and_eq_true, decide_eq_true_eq, List.all_eq_true, List.mem_range] at h1
    refine ⟨?_, fun l l0 l1 => ?_⟩
    · simp only [List.nil_append, wrote, List.flatten_cons, List.flatten_nil, List.append_nil]
      exact h1.1
    · have h2 := h1.2 l.toNat (by omega)
      rw [show ((l.toNat : Nat) : Int) = l by omega] at h2
      simpa using h2
  | 0, s, t, out, ev, f, x :: g, _, hl, _ => absurd hl (by simp)
  | n + 1, s, t, out, ev, f, x :: g, h, hl, hx => by
    unfold framesB at h
    simp only [Bool.and_eq_true, List.all_eq_true, List.mem_range] at h
    have h2 := h.2 x.toNat (by have := hx.head; omega)
    rw [show ((x.toNat : Nat) : Int) = x by have := hx.head; omega] at h2
    obtain ⟨i1, i2⟩ := framesB_ok (g := g) h2 (by simpa using hl) hx.tail
    refine ⟨?_, fun l l0 l1 => ?_⟩
    · simp only [List.cons_append, wrote, List.flatten_cons]
      rw [← List.append_assoc, i1]
      simp
    · have i3 := i2 l l0 l1
      simp only [List.cons_append, heard]
      rw [← List.append_assoc, i3]
      simp
end Pu
set_option Elab.async false
set_option linter.all false
set_option maxRecDepth 100000
set_option maxHeartbeats 4000000
/-! loops by a test and an invariant; in and index of lists; walks of states that are met -/
namespace Pu
open PySem L2 Stp NdefX LamX
open PyProof.Rows hiding St
section
variable {t : Env → T Bool} {m : Env → T Fl}
/-- while: n turns at most, c draws a turn; Z holds behind the loop, R of what ends it ahead of time -/
theorem wb_whileL (c : Nat) (I : Nat → Env → Prop) (Z : Env → Prop) (R : Fl → Prop) : ∀ {f n k : Nat} {env : Env}, I n env → n < f → c * n ≤ k →
    (∀ n env, I n env → (t env = .ret true ∧ 0 < n ∧ Wb c (m env) (fun _ r => TurnP (fun e => ∃ n', n' < n ∧ I n' e) R r) XF) ∨ (t env = .ret false ∧ Z env)) →
    Wb k (whileS t m f env) (fun j r => j = k - c * n ∧ ((∃ e, r = .nx e ∧ Z e) ∨ (∃ e, R (.bk e) ∧ r = .nx e) ∨ (R r ∧ (∀ e, r ≠ .nx e)))) XF
  | 0, n, k, env, _, hf, _, _ => by omega
  | f + 1, n, k, env, h0, hf, hk, h => by
    unfold whileS
    rcases h n env h0 with ⟨e, hn, hm⟩ | ⟨e, hz⟩
    · rw [e, T.bindX_ret, if_pos rfl]
      have hc : c ≤ k := Nat.le_trans (by have := Nat.mul_le_mul_left c (show 1 ≤ n from hn); omega) hk
      refine wb_bind (wb_call (P := fun r => TurnP (fun e => ∃ n', n' < n ∧ I n' e) R r) hm hc fun r z => ?_)
      have go : ∀ e2, (∃ n', n' < n ∧ I n' e2) → Wb (k - c) (whileS t m f e2) (fun j r => j = k - c * n ∧ ((∃ e, r = .nx e ∧ Z e) ∨ (∃ e, R (.bk e) ∧ r = .nx e) ∨ (R r ∧ (∀ e, r ≠ .nx e)))) XF := fun e2 ⟨n', h1, h2⟩ => by
        have e1 : c * n' + c ≤ c * n := by
          have := Nat.mul_le_mul_left c (show n' + 1 ≤ n from h1)
          rw [Nat.mul_succ] at this
          exact this
        have w := wb_whileL c I Z R (f := f) (n := n') (k := k - c) (env := e2) h2 (by omega) (by omega) h
        exact ⟨fun a ha => T.wp_mono (w.h a ha) (fun r m2 _ y => by obtain ⟨j, y1, y2, y3⟩ := y; exact ⟨k - c * n, by omega, rfl, y3⟩) (fun _ _ _ y => by obtain ⟨_, _, y⟩ := y; exact y.elim)⟩
      have hk2 : k - c * n ≤ k - c := by
        have := Nat.mul_le_mul_left c (show 1 ≤ n from hn)
        omega
      have stop : ∀ r, ((∃ e, R (.bk e) ∧ r = .nx e) ∨ (R r ∧ (∀ e, r ≠ .nx e))) → Wb (k - c) (.ret r) (fun j r => j = k - c * n ∧ ((∃ e, r = .nx e ∧ Z e) ∨ (∃ e, R (.bk e) ∧ r = .nx e) ∨ (R r ∧ (∀ e, r ≠ .nx e)))) XF := fun r z =>
        ⟨fun a ha => ⟨_, by omega, rfl, .inr z⟩⟩
      cases r with
      | nx e2 => exact go e2 z
      | ct e2 => exact go e2 z
      | bk e2 => exact stop _ (.inl ⟨e2, z, rfl⟩)
      | rt d => exact stop _ (.inr ⟨z, fun _ z => nomatch z⟩)
      | ex x e2 => exact stop _ (.inr ⟨z, fun _ z => nomatch z⟩)
      | ro o => exact stop _ (.inr ⟨z, fun _ z => nomatch z⟩)
    · rw [e, T.bindX_ret, if_neg (by decide)]
      exact ⟨fun a ha => ⟨k - c * n, by omega, rfl, .inl ⟨env, rfl, hz⟩⟩⟩
/-- a while that nothing ends ahead of time -/
theorem wb_whileI (c : Nat) (I : Nat → Env → Prop) (Z : Env → Prop) {f n k : Nat} {env : Env} {Q : Nat → Fl → Prop} {E : Nat → D → Prop} (h0 : I n env) (hf : n < f) (hk : c * n ≤ k)
    (h : ∀ n env, I n env → (t env = .ret true ∧ 0 < n ∧ Wb c (m env) (fun _ r => TurnP (fun e => ∃ n', n' < n ∧ I n' e) noZ r) XF) ∨ (t env = .ret false ∧ Z env))
    (h1 : ∀ e, Z e → Q (k - c * n) (.nx e)) : Wb k (whileS t m f env) Q E := by
  refine (wb_whileL c I Z noZ h0 hf hk h).mono (fun j r _ z => ?_) (fun _ _ _ z => z.elim)
  obtain ⟨rfl, ⟨e, rfl, z⟩ | ⟨_, z, _⟩ | ⟨z, _⟩⟩ := z
  · exact h1 e z
  · exact z.elim
  · exact z.elim
end
/-! in, index -/
section
variable {α : Type} [BEq α] [LawfulBEq α] {f : α → D}
theorem pdL_any (inj : ∀ a b, f a = f b → a = b) (nb : ∀ a, NbD 60 (f a)) {x : α} {a : PyData} (ex : (f x).pd = some a) : ∀ {l : List α} {bs : List PyData}, D.pdL (l.map f) = some bs → (bs.any fun z => PyData.eqv z a) = decide (x ∈ l) ∧ ∀ i, idxF a bs i = if x ∈ l then some (i + l.idxOf x) else none
  | [], bs, e => by
    cases e
    exact ⟨by simp, fun i => by simp [idxF]⟩
  | y :: l, bs, e => by
    obtain ⟨b, r, h1, h2, rfl⟩ := pr_cons (show (match (f y).pd, D.pdL (l.map f) with | some a, some b => some (a :: b) | _, _ => none) = some bs from e)
    obtain ⟨ih, ih2⟩ := pdL_any inj nb ex h2
    have q := eqv_nb (nb y).nb (nb x).nb h1 ex
    by_cases hy : y = x
    · have e1 : PyData.eqv b a = true := q.mpr (by rw [hy])
      refine ⟨by rw [List.any_cons, e1, ih]; simp [hy], fun i => ?_⟩
      unfold idxF
      rw [if_pos e1]
      simp [hy]
    · have e1 : PyData.eqv b a = false := Bool.eq_false_iff.mpr fun z => hy (inj _ _ (q.mp z))
      refine ⟨by rw [List.any_cons, e1, ih]; simp [Ne.symm hy], fun i => ?_⟩
      unfold idxF
      rw [if_neg (by rw [e1]; decide), ih2]
      have hn : x ≠ y := Ne.symm hy
      by_cases hm : x ∈ l
      · have e2 : (y :: l).idxOf x = l.idxOf x + 1 := by
          have e3 : (y == x) = false := by simp [hy]
          rw [List.idxOf_cons, e3]
          rfl
        rw [if_pos hm, if_pos (List.mem_cons_of_mem _ hm), e2]
        congr 1
        omega
      · rw [if_neg hm, if_neg (by simp [hn, hm])]
theorem shaped_of {d : D} (h : NbD 60 d) : ∃ a, d.pd = some a ∧ SeqAt.shaped a = true := by
  obtain ⟨a, e, l, p⟩ := pd_of h.nb
  refine ⟨a, e, ?_⟩
  have := h.dp
  unfold SeqAt.shaped
  rw [l, decide_eq_true (show a.depth ≤ 64 by omega)]; rfl
theorem inB_map (inj : ∀ a b, f a = f b → a = b) (nb : ∀ a, NbD 60 (f a)) (x : α) (l : List α) : ∃ a bs, (f x).pd = some a ∧ D.pdL (l.map f) = some bs ∧ SeqAt.shaped a = true ∧ SeqAt.shaped (.list bs) = true := by
  obtain ⟨a, e1, s1⟩ := shaped_of (nb x)
  obtain ⟨bs, e2, l2, p2⟩ := pdL_of (ds := l.map f) (nbL_iff.mpr fun d hd => by obtain ⟨y, _, rfl⟩ := List.mem_map.mp hd; exact (nb y).nb)
  have p3 := dpL_le (p := 60) (ds := l.map f) fun d hd => by obtain ⟨y, _, rfl⟩ := List.mem_map.mp hd; exact (nb y).dp
  refine ⟨a, bs, e1, e2, s1, ?_⟩
  unfold SeqAt.shaped
  rw [show PyData.canLay0 (.list bs) = true from by simpa [PyData.canLay0] using l2, decide_eq_true (show (PyData.list bs).depth ≤ 64 by simp only [PyData.depth]; omega)]; rfl
theorem inD_map (inj : ∀ a b, f a = f b → a = b) (nb : ∀ a, NbD 60 (f a)) (x : α) (l : List α) : inD (f x) (.lst (l.map f)) = .ret (.bl (decide (x ∈ l))) ∧ notInD (f x) (.lst (l.map f)) = .ret (.bl (!decide (x ∈ l))) := by
  obtain ⟨a, bs, e1, e2, s1, s2⟩ := inB_map inj nb x l
  have q : inB (f x) (.lst (l.map f)) = some (decide (x ∈ l)) := by
    show (match (f x).pd, D.pdL (l.map f) with
      | some a, some bs => if SeqAt.shaped a = true ∧ SeqAt.shaped (.list bs) = true then some (bs.any fun z => PyData.eqv z a) else none
      | _, _ => none) = _
    rw [e1, e2]
    dsimp only
    rw [if_pos ⟨s1, s2⟩, (pdL_any inj nb e1 e2).1]
  exact ⟨by unfold inD; rw [q], by unfold notInD; rw [q]⟩
theorem indexD_map (inj : ∀ a b, f a = f b → a = b) (nb : ∀ a, NbD 60 (f a)) {x : α} {l : List α} (h : x ∈ l) : indexD (.lst (l.map f)) (f x) = .ret (.int (l.idxOf x : Nat)) := by
  obtain ⟨a, bs, e1, e2, s1, s2⟩ := inB_map inj nb x l
  show (match (f x).pd, D.pdL (l.map f) with
    | some a, some bs => grd (SeqAt.shaped a = true ∧ SeqAt.shaped (.list bs) = true) (match idxF a bs 0 with
      | some j => T.ret (D.int j)
      | none => .fail)
    | _, _ => .fail) = _
  rw [e1, e2]
  dsimp only
  rw [grd_pos ⟨s1, s2⟩, (pdL_any inj nb e1 e2).2, if_pos h, Nat.zero_add]
end
/-! pairs of numbers -/
abbrev P2 := Int × Int
def pD (p : P2) : D := .tup [.int p.1, .int p.2]
theorem pD_inj : ∀ a b, pD a = pD b → a = b := fun a b h => by
  unfold pD at h
  simp only [D.tup.injEq, List.cons.injEq, D.int.injEq, and_true] at h
  exact Prod.ext h.1 h.2
theorem pD_nb (a : P2) : NbD 60 (pD a) := (nb_tup (p := 0) fun d hd => by
  simp only [List.mem_cons, List.not_mem_nil, or_false] at hd
  rcases hd with rfl | rfl <;> exact nb_int _).more (by decide)
theorem in_pairs (x : P2) (l : List P2) : inD (.tup [.int x.1, .int x.2]) (.lst (l.map pD)) = .ret (.bl (decide (x ∈ l))) := (inD_map pD_inj pD_nb x l).1
theorem notIn_pairs (x : P2) (l : List P2) : notInD (.tup [.int x.1, .int x.2]) (.lst (l.map pD)) = .ret (.bl (!decide (x ∈ l))) := (inD_map pD_inj pD_nb x l).2
theorem index_pairs {x : P2} {l : List P2} (h : x ∈ l) : indexD (.lst (l.map pD)) (.tup [.int x.1, .int x.2]) = .ret (.int (l.idxOf x : Nat)) := indexD_map pD_inj pD_nb h
/-! states met one by one -/
def addS (st : List P2) (q : P2) : List P2 := if q ∈ st then st else st ++ [q]
theorem mem_addS {st : List P2} {q x : P2} : x ∈ addS st q ↔ x ∈ st ∨ x = q := by
  unfold addS
  split
  · rename_i h
    exact ⟨.inl, fun z => z.elim id fun e => e ▸ h⟩
  · simp
theorem addS_nodup {st : List P2} {q : P2} (h : st.Nodup) : (addS st q).Nodup := by
  unfold addS
  split
  · exact h
  · rename_i hq
    exact List.nodup_append.mpr ⟨h, by simp, fun a ha b hb => by
      rw [List.mem_singleton.mp hb]
      exact fun e => hq (e ▸ ha)⟩
/-- the row of a state: what its moves tell, and the numbers of the states behind them -/
def rowF (step : Int → List Int × P2) : List Int → List P2 → List Mv × List P2
  | [], st => ([], st)
  | p :: ps, st => (((step p).1, ((addS st (step p).2).idxOf (step p).2 : Nat)) :: (rowF step ps (addS st (step p).2)).1, (rowF step ps (addS st (step p).2)).2)
def metF (step : P2 → Int → List Int × P2) (ps : List Int) : Nat → List (List Mv) → List P2 → List (List Mv)
  | 0, rows, _ => rows
  | f + 1, rows, st => if rows.length < st.length then
      metF step ps f (rows ++ [(rowF (step (st.getD rows.length (0, 0))) ps st).1]) (rowF (step (st.getD rows.length (0, 0))) ps st).2
    else rows
theorem rowF_app (step : Int → List Int × P2) : ∀ (a b : List Int) (st : List P2), rowF step (a ++ b) st = ((rowF step a st).1 ++ (rowF step b (rowF step a st).2).1, (rowF step b (rowF step a st).2).2)
  | [], _, _ => rfl
  | p :: a, b, st => by
    rw [List.cons_append, rowF, rowF_app step a b]
    rfl
theorem rowF_len (step : Int → List Int × P2) : ∀ (a : List Int) (st : List P2), (rowF step a st).1.length = a.length
  | [], _ => rfl
  | p :: a, st => by rw [rowF, List.length_cons, rowF_len step a]; rfl
/-- the states stay in a set, each once; the numbers name them -/
structure MetOk (S : P2 → Prop) (st : List P2) : Prop where
  nd : st.Nodup
  mem : ∀ x ∈ st, S x
theorem MetOk.add {S : P2 → Prop} {st : List P2} {q : P2} (h : MetOk S st) (hq : S q) : MetOk S (addS st q) :=
  ⟨addS_nodup h.nd, fun x hx => (mem_addS.mp hx).elim (h.mem x) fun e => e ▸ hq⟩
theorem addS_len {st : List P2} {q : P2} : st.length ≤ (addS st q).length := by
  unfold addS
  split
  · exact Nat.le_refl _
  · simp
theorem rowF_ok {S : P2 → Prop} {step : Int → List Int × P2} : ∀ {ps : List Int} {st : List P2}, MetOk S st → (∀ p ∈ ps, S (step p).2) → MetOk S (rowF step ps st).2 ∧ st.length ≤ (rowF step ps st).2.length
  | [], st, h, _ => ⟨h, Nat.le_refl _⟩
  | p :: ps, st, h, hs => by
    have h1 := h.add (hs p (List.mem_cons_self ..))
    obtain ⟨g1, g2⟩ := rowF_ok (ps := ps) h1 fun q hq => hs q (List.mem_cons_of_mem _ hq)
    exact ⟨g1, Nat.le_trans addS_len g2⟩
/-- all moves of a row are moves of the step, to states that are met -/
theorem rowF_mv {step : Int → List Int × P2} : ∀ {ps : List Int} {st : List P2} {v : Mv}, v ∈ (rowF step ps st).1 → (∃ p ∈ ps, v.1 = (step p).1) ∧ 0 ≤ v.2 ∧ v.2 < (rowF step ps st).2.length
  | [], st, v, h => by cases h
  | p :: ps, st, v, h => by
    have mono : ∀ (ps : List Int) (st : List P2), st.length ≤ (rowF step ps st).2.length := fun ps => by
      induction ps with
      | nil => exact fun _ => Nat.le_refl _
      | cons q ps ih => exact fun st => Nat.le_trans addS_len (ih _)
    rcases List.mem_cons.mp h with rfl | h
    · refine ⟨⟨p, List.mem_cons_self .., rfl⟩, by simp, ?_⟩
      have h1 : (addS st (step p).2).idxOf (step p).2 < (addS st (step p).2).length := List.idxOf_lt_length_of_mem (mem_addS.mpr (.inr rfl))
      have h2 := mono ps (addS st (step p).2)
      show (((addS st (step p).2).idxOf (step p).2 : Nat) : Int) < ((rowF step ps (addS st (step p).2)).2.length : Nat)
      omega
    · obtain ⟨⟨q, h1, h2⟩, h3⟩ := rowF_mv h
      exact ⟨⟨q, List.mem_cons_of_mem _ h1, h2⟩, h3⟩
theorem nodup_lt : ∀ {n : Nat} {l : List Nat}, l.Nodup → (∀ x ∈ l, x < n) → l.length ≤ n
  | 0, l, _, h => by
    cases l with
    | nil => exact Nat.le_refl _
    | cons x l => exact absurd (h x (List.mem_cons_self ..)) (Nat.not_lt_zero _)
  | n + 1, l, hn, h => by
    have h1 := nodup_lt (n := n) (hn.erase n) fun x hx => by
      obtain ⟨g1, g2⟩ := hn.mem_erase_iff.mp hx
      have := h x g2
      omega
    have h2 := List.length_erase (l := l) (a := n)
    split at h2 <;> omega
/-- pairs of states of two machines: at most so many -/
def Box (a b : Nat) (x : P2) : Prop := 0 ≤ x.1 ∧ x.1 < a ∧ 0 ≤ x.2 ∧ x.2 < b
theorem box_len {a b : Nat} {st : List P2} (h : MetOk (Box a b) st) : st.length ≤ a * b := by
  have h1 : (st.map fun x : P2 => x.1.toNat * b + x.2.toNat).Nodup := by
    refine List.pairwise_map.mpr (List.Pairwise.imp_of_mem (fun {x y} hx hy ne e => ne ?_) h.nd)
    obtain ⟨x1, x2, x3, x4⟩ := h.mem x hx
    obtain ⟨y1, y2, y3, y4⟩ := h.mem y hy
    have hb : 0 < b := by omega
    have e1 : (x.1.toNat * b + x.2.toNat) / b = (y.1.toNat * b + y.2.toNat) / b := by rw [e]
    have e2 : (x.1.toNat * b + x.2.toNat) % b = (y.1.toNat * b + y.2.toNat) % b := by rw [e]
    rw [Nat.mul_comm _ b, Nat.mul_comm _ b, Nat.mul_add_div hb, Nat.mul_add_div hb, Nat.div_eq_of_lt (by omega), Nat.div_eq_of_lt (by omega)] at e1
    rw [Nat.mul_comm _ b, Nat.mul_comm _ b, Nat.mul_add_mod, Nat.mul_add_mod, Nat.mod_eq_of_lt (by omega), Nat.mod_eq_of_lt (by omega)] at e2
    exact Prod.ext (by omega) (by omega)
  have h3 := nodup_lt (n := a * b) h1 fun n hn => by
    obtain ⟨x, hx, rfl⟩ := List.mem_map.mp hn
    obtain ⟨x1, x2, x3, x4⟩ := h.mem x hx
    have := Nat.mul_le_mul_right b (show x.1.toNat + 1 ≤ a by omega)
    rw [Nat.succ_mul] at this
    omega
  rw [List.length_map] at h3
  exact h3
end Pu
set_option Elab.async false
set_option linter.all false
set_option maxRecDepth 100000
set_option maxHeartbeats 4000000
/-! the rows of states that are met; machines laid over each other -/
namespace Pu
open PySem L2 Stp NdefX LamX
open PyProof.Rows hiding St
/-- what a table's moves tell one after the other -/
theorem heard_tab {m : Mch} {moves lo up : Int} {ln most : Nat} (h : TabOk m.rows moves lo up ln most) : ∀ {xs : List Int} {s : Int}, InSt m s → Within 0 moves xs → Within lo up (heard m s xs).1 ∧ InSt m (heard m s xs).2 ∧ (heard m s xs).1.length ≤ ln * xs.length
  | [], s, hs, _ => ⟨Within.nil, hs, Nat.zero_le _⟩
  | x :: xs, s, hs, hx => by
    have h1 := hs.1
    have h2 := hs.2
    have b := hx.head
    obtain ⟨g1, g2, g3, g4⟩ := h.at_ (i := s.toNat) (j := x.toNat) (by omega) (by omega)
    obtain ⟨i1, i2, i3⟩ := heard_tab h (xs := xs) (s := (rmove m s x).2) ⟨g3, g4⟩ hx.tail
    refine ⟨Within.app g2 i1, i2, ?_⟩
    show ((rmove m s x).1 ++ (heard m (rmove m s x).2 xs).1).length ≤ _
    rw [List.length_append, List.length_cons, Nat.mul_succ]
    have : (rmove m s x).1.length ≤ ln := g1
    omega
theorem metF_done {step : P2 → Int → List Int × P2} {ps : List Int} {f : Nat} {rows : List (List Mv)} {st : List P2} (h : st.length ≤ rows.length) : metF step ps f rows st = rows := by
  cases f with
  | zero => rfl
  | succ f => rw [metF, if_neg (by omega)]
/-- a loop that meets states: rows so far, states so far -/
structure MetI (S : P2 → Prop) (step : P2 → Int → List Int × P2) (ps : List Int) (N : Nat) (R : List (List Mv)) (n : Nat) (rows : List (List Mv)) (st : List P2) : Prop where
  ok : MetOk S st
  sum : rows.length + n = N
  le : rows.length ≤ st.length
  res : metF step ps n rows st = R
theorem MetI.start {S : P2 → Prop} {step : P2 → Int → List Int × P2} {ps : List Int} {N : Nat} {x : P2} (h : S x) : MetI S step ps N (metF step ps N [] [x]) N [] [x] :=
  ⟨⟨by simp, fun y hy => by rw [List.mem_singleton.mp hy]; exact h⟩, by simp, by simp, rfl⟩
theorem MetI.state {S : P2 → Prop} {step : P2 → Int → List Int × P2} {ps : List Int} {N n : Nat} {R rows : List (List Mv)} {st : List P2} (h : MetI S step ps N R n rows st) (hl : rows.length < st.length) : S (st.getD rows.length (0, 0)) := by
  refine h.ok.mem _ ?_
  rw [List.getD_eq_getElem?_getD, List.getElem?_eq_getElem hl]
  exact List.getElem_mem ..
theorem MetI.next {S : P2 → Prop} {step : P2 → Int → List Int × P2} {ps : List Int} {N n : Nat} {R rows : List (List Mv)} {st : List P2} (h : MetI S step ps N R n rows st) (hl : rows.length < st.length) (hN : ∀ st, MetOk S st → st.length ≤ N) (hs : ∀ x, S x → ∀ p ∈ ps, S (step x p).2) :
    0 < n ∧ MetI S step ps N R (n - 1) (rows ++ [(rowF (step (st.getD rows.length (0, 0))) ps st).1]) (rowF (step (st.getD rows.length (0, 0))) ps st).2 := by
  have h1 := hN st h.ok
  have h2 := h.sum
  obtain ⟨g1, g2⟩ := rowF_ok (ps := ps) (step := step (st.getD rows.length (0, 0))) h.ok (hs _ (h.state hl))
  refine ⟨by omega, g1, by rw [List.length_append, List.length_singleton]; omega, by rw [List.length_append, List.length_singleton]; omega, ?_⟩
  have h3 := h.res
  obtain ⟨k, rfl⟩ : ∃ k, n = k + 1 := ⟨n - 1, by omega⟩
  rw [metF, if_pos hl] at h3
  exact h3
theorem MetI.done {S : P2 → Prop} {step : P2 → Int → List Int × P2} {ps : List Int} {N n : Nat} {R rows : List (List Mv)} {st : List P2} (h : MetI S step ps N R n rows st) (hl : ¬ rows.length < st.length) : rows = R := by
  have h3 := h.res
  rw [metF_done (by omega)] at h3
  exact h3
/-- what the rows are, whatever was met -/
theorem metF_ok {S : P2 → Prop} {step : P2 → Int → List Int × P2} {ps : List Int} {N : Nat} {P : List Int → Prop} (hN : ∀ st, MetOk S st → st.length ≤ N) (hs : ∀ x, S x → ∀ p ∈ ps, S (step x p).2 ∧ P (step x p).1) :
    ∀ {n : Nat} {R rows : List (List Mv)} {st : List P2}, MetI S step ps N R n rows st → (∀ r ∈ rows, r.length = ps.length ∧ ∀ v ∈ r, P v.1 ∧ 0 ≤ v.2 ∧ v.2 < st.length) → R.length ≤ N ∧ (st.length ≤ R.length) ∧ ∀ r ∈ R, r.length = ps.length ∧ ∀ v ∈ r, P v.1 ∧ 0 ≤ v.2 ∧ v.2 < R.length
  | n, R, rows, st, h, hr => by
    by_cases hl : rows.length < st.length
    · obtain ⟨h1, h2⟩ := h.next hl hN fun x hx p hp => (hs x hx p hp).1
      have hle := (rowF_ok (ps := ps) (step := step (st.getD rows.length (0, 0))) h.ok fun p hp => (hs _ (h.state hl) p hp).1).2
      obtain ⟨a1, a2, a3⟩ := metF_ok hN hs (n := n - 1) h2 fun r hr' => by
        rcases List.mem_append.mp hr' with hr' | hr'
        · obtain ⟨b1, b2⟩ := hr r hr'
          exact ⟨b1, fun v hv => by obtain ⟨c1, c2, c3⟩ := b2 v hv; exact ⟨c1, c2, by omega⟩⟩
        · rw [List.mem_singleton.mp hr']
          refine ⟨rowF_len _ _ _, fun v hv => ?_⟩
          obtain ⟨⟨p, p1, p2⟩, c2, c3⟩ := rowF_mv hv
          exact ⟨by rw [p2]; exact (hs _ (h.state hl) p p1).2, c2, c3⟩
      exact ⟨a1, by omega, a3⟩
    · have e := h.done hl
      have h1 := h.sum
      have h2 := h.le
      subst e
      exact ⟨by omega, by omega, fun r hr' => by
        obtain ⟨b1, b2⟩ := hr r hr'
        exact ⟨b1, fun v hv => by obtain ⟨c1, c2, c3⟩ := b2 v hv; exact ⟨c1, c2, by omega⟩⟩⟩
  termination_by n => n
  decreasing_by omega
theorem metF_ge {S : P2 → Prop} {step : P2 → Int → List Int × P2} {ps : List Int} {N : Nat} (hN : ∀ st, MetOk S st → st.length ≤ N) (hs : ∀ x, S x → ∀ p ∈ ps, S (step x p).2) {x : P2} (hx : S x) : 1 ≤ (metF step ps N [] [x]).length := by
  have := (metF_ok (P := fun _ => True) hN (fun x hx p hp => ⟨hs x hx p hp, trivial⟩) (MetI.start (step := step) (ps := ps) (N := N) hx) (fun _ m => nomatch m)).2.1
  simpa using this
/-- the rows are short enough -/
def fitB (t : List (List Mv)) (a b : Nat) : Bool := decide (t.length ≤ a) && t.all fun r => r.all fun v => decide (v.1.length ≤ b)
theorem fitB_iff {t : List (List Mv)} {a b : Nat} : fitB t a b = true ↔ t.length ≤ a ∧ ∀ r ∈ t, ∀ v ∈ r, v.1.length ≤ b := by
  simp [fitB]
/-! layers -/
def stepW (u l : Mch) (x : P2) (p : Int) : List Int × P2 := ((heard l x.2 (mvAt u.rows x.1.toNat p.toNat).1).1, ((mvAt u.rows x.1.toNat p.toNat).2, (heard l x.2 (mvAt u.rows x.1.toNat p.toNat).1).2))
def sgnF (k e : Int) : Int := if e = -2 then k + 1 else if e = -1 then k else e
def stepR (u l : Mch) (x : P2) (p : Int) : List Int × P2 := ((heard u x.1 ((mvAt l.rows x.2.toNat p.toNat).1.map (sgnF l.kinds))).1, ((heard u x.1 ((mvAt l.rows x.2.toNat p.toNat).1.map (sgnF l.kinds))).2, (mvAt l.rows x.2.toNat p.toNat).2))
/-- the numbers below k -/
def upL (k : Int) : List Int := (List.range k.toNat).map fun (i : Nat) => (i : Int)
theorem mem_upL {k p : Int} : p ∈ upL k ↔ 0 ≤ p ∧ p < k := by
  unfold upL
  rw [List.mem_map]
  constructor
  · rintro ⟨i, h, rfl⟩
    rw [List.mem_range] at h
    omega
  · rintro ⟨h1, h2⟩
    exact ⟨p.toNat, by rw [List.mem_range]; omega, by omega⟩
theorem upL_len {k : Int} : (upL k).length = k.toNat := by simp [upL]
theorem upL_take {k : Int} {j : Nat} (h : j < k.toNat) : (upL k).take (j + 1) = (upL k).take j ++ [(j : Int)] := by
  have e : (upL k)[j]? = some (j : Int) := by
    unfold upL
    rw [List.getElem?_map, List.getElem?_range h]
    rfl
  rw [List.take_succ, e]
  rfl
theorem addS_get {st : List P2} {q d : P2} {i : Nat} (h : i < st.length) : (addS st q).getD i d = st.getD i d := by
  unfold addS
  split
  · rfl
  · rw [List.getD_eq_getElem?_getD, List.getD_eq_getElem?_getD, List.getElem?_append_left h]
theorem rowF_get {step : Int → List Int × P2} {d : P2} : ∀ {ps : List Int} {st : List P2} {i : Nat}, i < st.length → (rowF step ps st).2.getD i d = st.getD i d
  | [], _, _, _ => rfl
  | p :: ps, st, i, h => by
    rw [rowF, rowF_get (Nat.lt_of_lt_of_le h addS_len), addS_get h]
theorem rowF_one {step : Int → List Int × P2} {p : Int} {st : List P2} : rowF step [p] st = ([((step p).1, (((addS st (step p).2).idxOf (step p).2 : Nat) : Int))], addS st (step p).2) := rfl
/-- the upper writer never writes its last sign -/
def noLast (u l : Mch) : Prop := ∀ r ∈ u.rows, ∀ v ∈ r, l.kinds + 1 ∉ v.1
def lastB (k : Int) (t : List (List Mv)) : Bool := t.flatten.any fun v => decide (k + 1 ∈ v.1)
theorem lastB_no {k : Int} {t : List (List Mv)} : lastB k t = false ↔ ∀ r ∈ t, ∀ v ∈ r, k + 1 ∉ v.1 := by
  unfold lastB
  rw [List.any_eq_false]
  constructor
  · intro h r hr v hv hk
    exact h v (List.mem_flatten.mpr ⟨r, hr, hv⟩) (by simpa using hk)
  · intro h v hv
    obtain ⟨r, hr, hv⟩ := List.mem_flatten.mp hv
    simpa using h r hr v hv
abbrev BoxM (u l : Mch) : P2 → Prop := Box u.rows.length l.rows.length
theorem stepW_ok {u l : Mch} (hu : WOk u) (hl : WOk l) (hm : u.many = l.kinds + 2) (hn : noLast u l) {x : P2} (hx : BoxM u l x) {p : Int} (h1 : 0 ≤ p) (h2 : p < u.kinds + 1) :
    BoxM u l (stepW u l x p).2 ∧ Within 0 l.many (stepW u l x p).1 ∧ (stepW u l x p).1.length ≤ 144 ∧ Within 0 (l.kinds + 1) (mvAt u.rows x.1.toNat p.toNat).1 := by
  obtain ⟨x1, x2, x3, x4⟩ := hx
  obtain ⟨g1, g2, g3, g4⟩ := hu.tab.at_ (i := x.1.toNat) (j := p.toNat) (by omega) (by omega)
  have g5 : Within 0 (l.kinds + 1) (mvAt u.rows x.1.toNat p.toNat).1 := fun y hy => by
    have := g2 y hy
    have e : y ≠ l.kinds + 1 := fun e => by
      obtain ⟨m, _⟩ := hu.tab.row_at (i := x.1.toNat) (by omega)
      refine hn _ m (mvAt u.rows x.1.toNat p.toNat) ?_ (e ▸ hy)
      unfold mvAt
      have e2 := hu.tab.row _ m
      generalize u.rows.getD x.1.toNat [] = r at m e2
      rw [List.getD_eq_getElem?_getD, List.getElem?_eq_getElem (by omega)]
      exact List.getElem_mem ..
    omega
  obtain ⟨i1, i2, i3⟩ := heard_tab hl.tab (s := x.2) ⟨x3, x4⟩ g5
  exact ⟨⟨g3, g4, i2.1, i2.2⟩, i1, by show (heard l x.2 _).1.length ≤ 144; omega, g5⟩
theorem stepR_ok {u l : Mch} (hu : ROk u) (hl : ROk l) (hm : u.many = l.kinds + 2) {x : P2} (hx : BoxM u l x) {p : Int} (h1 : 0 ≤ p) (h2 : p < l.many) :
    BoxM u l (stepR u l x p).2 ∧ Within (-2) u.kinds (stepR u l x p).1 ∧ (stepR u l x p).1.length ≤ 64 ∧ Within 0 u.many ((mvAt l.rows x.2.toNat p.toNat).1.map (sgnF l.kinds)) := by
  obtain ⟨x1, x2, x3, x4⟩ := hx
  obtain ⟨g1, g2, g3, g4⟩ := hl.tab.at_ (i := x.2.toNat) (j := p.toNat) (by omega) (by omega)
  have k1 := hl.num.k1
  have g5 : Within 0 u.many ((mvAt l.rows x.2.toNat p.toNat).1.map (sgnF l.kinds)) := fun y hy => by
    obtain ⟨e, he, rfl⟩ := List.mem_map.mp hy
    have := g2 e he
    unfold sgnF
    split
    · omega
    · split <;> omega
  obtain ⟨i1, i2, i3⟩ := heard_tab hu.tab (s := x.1) ⟨x1, x2⟩ g5
  refine ⟨⟨i2.1, i2.2, g3, g4⟩, i1, ?_, g5⟩
  show (heard u x.1 _).1.length ≤ 64
  rw [List.length_map] at i3
  omega
def overW (u l : Mch) : Mch := ⟨l.many, u.kinds, metF (stepW u l) (upL (u.kinds + 1)) (u.rows.length * l.rows.length) [] [(0, 0)]⟩
def overR (u l : Mch) : Mch := ⟨l.many, u.kinds, metF (stepR u l) (upL l.many) (u.rows.length * l.rows.length) [] [(0, 0)]⟩
theorem box0 {u l : Mch} (h1 : 1 ≤ u.rows.length) (h2 : 1 ≤ l.rows.length) : BoxM u l (0, 0) := ⟨Int.le_refl _, show (0 : Int) < (u.rows.length : Nat) by omega, Int.le_refl _, show (0 : Int) < (l.rows.length : Nat) by omega⟩
theorem overW_tab {u l : Mch} (hu : WOk u) (hl : WOk l) (hm : u.many = l.kinds + 2) (hn : noLast u l) : TabOk (overW u l).rows (u.kinds + 1) 0 l.many 144 576 := by
  have k1 := hu.num.k1
  have a1 := hu.tab.ne
  have a2 := hl.tab.ne
  have a3 := Nat.mul_le_mul hu.tab.le hl.tab.le
  have hS := MetI.start (S := BoxM u l) (step := stepW u l) (ps := upL (u.kinds + 1)) (N := u.rows.length * l.rows.length) (box0 a1 a2)
  have h := metF_ok (P := fun w => Within 0 l.many w ∧ w.length ≤ 144) (fun st h => box_len h) (fun x hx p hp => by
    obtain ⟨p1, p2⟩ := mem_upL.mp hp
    obtain ⟨b1, b2, b3, _⟩ := stepW_ok hu hl hm hn hx p1 p2
    exact ⟨b1, b2, b3⟩) hS (fun _ m => nomatch m)
  obtain ⟨h1, h2, h3⟩ := h
  refine ⟨h2, Nat.le_trans h1 a3, fun r hr => ?_, fun r hr v hv => ?_⟩
  · rw [(h3 r hr).1, upL_len]; omega
  · obtain ⟨c1, c2, c3⟩ := (h3 r hr).2 v hv
    exact ⟨c1.2, c1.1, c2, c3⟩
theorem overR_tab {u l : Mch} (hu : ROk u) (hl : ROk l) (hm : u.many = l.kinds + 2) : TabOk (overR u l).rows l.many (-2) u.kinds 64 1600 := by
  have k1 := hl.num.m1
  have a1 := hu.tab.ne
  have a2 := hl.tab.ne
  have a3 := Nat.mul_le_mul hu.tab.le hl.tab.le
  have hS := MetI.start (S := BoxM u l) (step := stepR u l) (ps := upL l.many) (N := u.rows.length * l.rows.length) (box0 a1 a2)
  have h := metF_ok (P := fun w => Within (-2) u.kinds w ∧ w.length ≤ 64) (fun st h => box_len h) (fun x hx p hp => by
    obtain ⟨p1, p2⟩ := mem_upL.mp hp
    obtain ⟨b1, b2, b3, _⟩ := stepR_ok hu hl hm hx p1 p2
    exact ⟨b1, b2, b3⟩) hS (fun _ m => nomatch m)
  obtain ⟨h1, h2, h3⟩ := h
  refine ⟨h2, Nat.le_trans h1 a3, fun r hr => ?_, fun r hr v hv => ?_⟩
  · rw [(h3 r hr).1, upL_len]; omega
  · obtain ⟨c1, c2, c3⟩ := (h3 r hr).2 v hv
    exact ⟨c1.2, c1.1, c2, c3⟩
theorem TabOk.fit {t : List (List Mv)} {moves lo up : Int} {ln most ln2 most2 : Nat} (h : TabOk t moves lo up ln most) (hf : fitB t most2 ln2 = true) : TabOk t moves lo up ln2 most2 := by
  obtain ⟨f1, f2⟩ := fitB_iff.mp hf
  exact ⟨h.ne, f1, h.row, fun r hr v hv => ⟨f2 r hr v hv, (h.mv r hr v hv).2⟩⟩
/-- the input at a place -/
def inF (k p : Int) : Int := if p = k then -1 else p
theorem inF_ok {k p : Int} (k1 : 1 ≤ k) (h1 : 0 ≤ p) (h2 : p < k + 1) : -1 ≤ inF k p ∧ inF k p < k := by
  unfold inF
  split <;> omega
theorem wplace_in {m : Mch} {p : Int} (k1 : 1 ≤ m.kinds) (h1 : 0 ≤ p) (h2 : p < m.kinds + 1) : wplace m (inF m.kinds p) = p.toNat := by
  unfold wplace inF
  split <;> (try split) <;> (first | omega | (congr 1; omega))
theorem heard_take {m : Mch} {s : Int} {xs : List Int} {j : Nat} {x : Int} (h : xs[j]? = some x) : heard m s (xs.take (j + 1)) = ((heard m s (xs.take j)).1 ++ (rmove m (heard m s (xs.take j)).2 x).1, (rmove m (heard m s (xs.take j)).2 x).2) := by
  rw [List.take_succ, h, Option.toList_some, heard_app]
  simp [heard]
theorem fitB_flat {t : List (List Mv)} {a b : Nat} : fitB t a b = (decide (t.length ≤ a) && t.flatten.all fun v => decide (v.1.length ≤ b)) := by
  unfold fitB
  congr 1
  induction t with
  | nil => rfl
  | cons r t ih => rw [List.all_cons, ih, List.flatten_cons, List.all_append]
/-- what a look at a move's items tells, row by row -/
def rowMap (f : Mv → Bool) (r : D) : List D := match unRow r with
  | some l => l.map fun v => .bl (f v)
  | none => []
theorem unInts_iD : ∀ w : List Int, unInts (iD w) = some w
  | [] => rfl
  | i :: w => by
    show (unInts (iD w)).map (i :: ·) = _
    rw [unInts_iD w]; rfl
theorem unMv_mvD (v : Mv) : unMv (mvD v) = some v := by
  show (unInts (iD v.1)).map (fun w => (w, v.2)) = _
  rw [unInts_iD]; rfl
theorem unRow_rowD (r : List Mv) : unRow (rowD r) = some r := by
  show unAll unMv (r.map mvD) = some r
  induction r with
  | nil => rfl
  | cons v r ih => rw [List.map_cons, unAll, unMv_mvD, ih]
theorem rowMap_flat (f : Mv → Bool) (t : List (List Mv)) : (t.map rowD).flatMap (rowMap f) = t.flatten.map fun v => D.bl (f v) := by
  induction t with
  | nil => rfl
  | cons r t ih =>
    rw [List.map_cons, List.flatMap_cons, ih, List.flatten_cons, List.map_append]
    unfold rowMap
    rw [unRow_rowD]
theorem in_ints (x : Int) (w : List Int) : inD (.int x) (.tup (iD w)) = .ret (.bl (decide (x ∈ w))) := by
  have e : inB (.int x) (.tup (iD w)) = some (decide (x ∈ w)) := by
    have h1 : (iD w).all flatD = true := by
      rw [List.all_eq_true]
      intro d hd
      obtain ⟨i, _, rfl⟩ := List.mem_map.mp hd
      rfl
    show (if flatD (.int x) = true ∧ (iD w).all flatD = true then some ((iD w).any fun y => eqF y (.int x)) else none) = _
    rw [if_pos ⟨rfl, h1⟩]
    congr 1
    induction w with
    | nil => rfl
    | cons y w ih =>
      have ih := ih (by
        rw [List.all_eq_true]
        intro d hd
        obtain ⟨i, _, rfl⟩ := List.mem_map.mp hd
        rfl)
      show (eqF (.int y) (.int x) || (iD w).any fun y => eqF y (.int x)) = _
      rw [ih]
      show ((y == x) || decide (x ∈ w)) = _
      by_cases h : y = x
      · simp [h]
      · have h2 : x ≠ y := Ne.symm h
        simp [h, h2]
  unfold inD
  rw [e]
theorem sh_mvM {v : Mv} {lo up n : Int} (h1 : v.1.length ≤ 12) (h2 : Within lo up v.1) (h3 : 0 ≤ v.2) (h4 : v.2 < n) (l1 : -100 ≤ lo) (l2 : up ≤ 100) (l3 : n ≤ 100) : ShD 26 2 (mvD v) :=
  (shD_tup (n := 2) (b := 12) (p := 1) (by simp) fun x hx => by
    simp only [List.mem_cons, List.not_mem_nil, or_false] at hx
    rcases hx with rfl | rfl
    · exact (shD_tup (n := 12) (by rw [iD_length]; exact h1) (shI h2 (by omega) (by omega))).more (by decide) (by decide)
    · exact (shD_int (by omega)).more (by decide) (by decide)).more (by decide) (by decide)
theorem sh_tabM {t : List (List Mv)} {moves lo up : Int} {ln most : Nat} (h : TabOk t moves lo up ln most) (hm : moves ≤ 7) (hl : t.length ≤ 40) (h1 : ln ≤ 12) (l1 : -100 ≤ lo) (l2 : up ≤ 100) : ShD 7600 4 (tabD t) :=
  (shD_lst (n := 40) (b := 189) (p := 3) (by simpa using hl) fun x hx => by
    obtain ⟨r, hr, rfl⟩ := List.mem_map.mp hx
    have hrl := h.row r hr
    exact (shD_lst (n := 7) (b := 26) (p := 2) (by simp; omega) fun x hx => by
      obtain ⟨v, hv, rfl⟩ := List.mem_map.mp hx
      obtain ⟨a1, a2, a3, a4⟩ := h.mv r hr v hv
      exact sh_mvM (by omega) a2 a3 a4 l1 l2 (by omega)).more (by decide) (by decide)).more (by decide) (by decide)
/-! machines that are written down -/
def wokB (m : Mch) : Bool := decide (2 ≤ m.many) && decide (m.many ≤ 6) && decide (1 ≤ m.kinds) && decide (m.kinds ≤ 6) && tabB m.rows (m.kinds + 1) 0 m.many 12 24
def rokB (m : Mch) : Bool := decide (2 ≤ m.many) && decide (m.many ≤ 6) && decide (1 ≤ m.kinds) && decide (m.kinds ≤ 6) && tabB m.rows m.many (-2) m.kinds 8 40
theorem wokB_ok {m : Mch} (h : wokB m = true) : WOk m := by
  simp only [wokB, Bool.and_eq_true, decide_eq_true_eq] at h
  exact ⟨⟨h.1.1.1.1, h.1.1.1.2, h.1.1.2, h.1.2⟩, tabB_ok h.2⟩
theorem rokB_ok {m : Mch} (h : rokB m = true) : ROk m := by
  simp only [rokB, Bool.and_eq_true, decide_eq_true_eq] at h
  exact ⟨⟨h.1.1.1.1, h.1.1.1.2, h.1.1.2, h.1.2⟩, tabB_ok h.2⟩
/-- an upper pair for a lower one of k data -/
structure UppOk (k : Int) (u v : Mch) : Prop where
  w : WOk u
  r : ROk v
  um : u.many = k + 2
  vm : v.many = k + 2
  no : ∀ r ∈ u.rows, ∀ x ∈ r, k + 1 ∉ x.1
def uppB (k : Int) : T D → Bool
  | .ret (.tup [a, b]) => (match unMch a, unMch b with
    | some u, some v => wokB u && rokB v && decide (u.many = k + 2) && decide (v.many = k + 2) && !lastB k u.rows
    | _, _ => false)
  | _ => false
theorem uppB_ok {k : Int} {t : T D} (h : uppB k t = true) : ∃ u v, t = .ret (duoD u v) ∧ UppOk k u v := by
  unfold uppB at h
  split at h
  · split at h
    · rename_i a b _ _ u v e1 e2
      simp only [Bool.and_eq_true, decide_eq_true_eq, Bool.not_eq_true'] at h
      exact ⟨u, v, by rw [unMch_ok e1, unMch_ok e2]; rfl, wokB_ok h.1.1.1.1, rokB_ok h.1.1.1.2, h.1.1.2, h.1.2, lastB_no.mp h.2⟩
    · cases h
  · cases h
theorem compL_g {α : Type} {g f : α → D} {pt : Pt} {env : Env} {tt : Env → T Bool} {me : Env → T D} : ∀ {l : List α}, (∀ x ∈ l, ∃ env', putP pt (g x) env = some env' ∧ tt env' = .ret true ∧ me env' = .ret (f x)) → compL pt env tt me (l.map g) = .ret (l.map f)
  | [], _ => rfl
  | x :: l, h => by
    obtain ⟨env', e1, e2, e3⟩ := h x (List.mem_cons_self ..)
    rw [List.map_cons]
    unfold compL
    rw [e1]
    dsimp only
    rw [e2, e3, T.noX_ret, T.bind_ret, if_pos rfl, T.noX_ret, T.bind_ret, compL_g fun y hy => h y (List.mem_cons_of_mem _ hy)]
    rfl
end Pu
set_option Elab.async false
set_option linter.all false
set_option maxRecDepth 100000
set_option maxHeartbeats 4000000
/-! dicts whose keys are pairs of numbers; equations of pop, displays, sorted -/
namespace Pu
open PySem L2 Stp NdefX LamX
open PyProof.Rows hiding St
@[simp] theorem popS_def {i : Nat} {mi : Env → T D} {pt : Pt} {env : Env} : popS i mi pt env = ownL i env fun xs => exS mi (fun d env => match d with
  | .int k => (match ixN xs.length k with
    | some j => (match xs[j]? with
      | some y => (match putP pt y (env.set i (some (.ls (xs.eraseIdx j)))) with
        | some env' => grd (xs.length ≤ big) (.ret (.nx env'))
        | none => .fail)
      | none => .fail)
    | none => .fail)
  | _ => .fail) env := (rfl)
@[simp] theorem aStarR_def {m : Env → T D} {k : Env → T (List D)} {env : Env} : aStarR m k env = (m env).bind fun d => match d with
  | .int n => grd (0 ≤ n ∧ n ≤ 1000000) ((k env).bind fun ys => .ret (rgD 0 n ++ ys))
  | _ => .fail := (rfl)
@[simp] theorem oDisp1T_def {mk mv : Env → T D} {env : Env} : oDisp1T mk mv env = (mk env).bind fun k => (mv env).bind fun d => match k with
  | .tup ks => (match keysD ks with
    | some kk => .ret (.dt [(kk, d)])
    | none => .fail)
  | _ => .fail := (rfl)
@[simp] theorem itO_dt {kvs : List (List Key × D)} {ks : List D} : itO (.dt kvs) (.tup ks) = match keysD ks with
  | some k => ofO (valD kvs k)
  | none => .fail := (rfl)
@[simp] theorem toD_dt (kvs : List (List Key × D)) : (O.dt kvs).toD = .dT kvs := (rfl)
@[simp] theorem toD_dk (kvs : List (Key × D)) : (O.dk kvs).toD = .dK kvs := (rfl)
def kPr (p : P2) : List Key := [.inl p.1, .inl p.2]
theorem kPr_inj {a b : P2} (h : kPr a = kPr b) : a = b := by
  unfold kPr at h
  simp only [List.cons.injEq, Sum.inl.injEq, and_true] at h
  exact Prod.ext h.1 h.2
def dictP (L : List (P2 × D)) : List (List Key × D) := L.map fun q => (kPr q.1, q.2)
@[simp] theorem keysD_pair (a b : Int) : keysD [.int a, .int b] = some [.inl a, .inl b] := rfl
theorem dictP_val {L : List (P2 × D)} {x : P2} : valD (dictP L) (kPr x) = (L.find? fun q => decide (q.1 = x)).map (·.2) := by
  unfold valD dictP
  rw [List.find?_map]
  have e : ((fun kv : List Key × D => decide (kv.1 = kPr x)) ∘ fun q : P2 × D => (kPr q.1, q.2)) = fun q => decide (q.1 = x) := funext fun q => by
    show decide (kPr q.1 = kPr x) = _
    by_cases h : q.1 = x
    · simp [h]
    · have h2 : ¬ kPr q.1 = kPr x := fun z => h (kPr_inj z)
      simp [h, h2]
  rw [e, Option.map_map]
  rfl
theorem dictP_some {L : List (P2 × D)} {x : P2} : (valD (dictP L) (kPr x)).isSome = decide (x ∈ L.map (·.1)) := by
  rw [dictP_val, Option.isSome_map]
  induction L with
  | nil => rfl
  | cons q L ih =>
    rw [List.find?_cons]
    by_cases h : q.1 = x
    · simp [h]
    · have h2 : ¬ x = q.1 := fun z => h z.symm
      simp only [h, decide_false]
      rw [ih]
      simp [h2]
theorem notIn_dictP {L : List (P2 × D)} {x : P2} : notInD (.tup [.int x.1, .int x.2]) (.dT (dictP L)) = .ret (.bl (!decide (x ∈ L.map (·.1)))) := by
  have e : inB (.tup [.int x.1, .int x.2]) (.dT (dictP L)) = some (decide (x ∈ L.map (·.1))) := by
    simp only [inB, keysD_pair, Option.map_some]
    exact congrArg some (dictP_some (x := x))
  unfold notInD
  rw [e]
theorem in_dictP {L : List (P2 × D)} {x : P2} : inD (.tup [.int x.1, .int x.2]) (.dT (dictP L)) = .ret (.bl (decide (x ∈ L.map (·.1)))) := by
  have e : inB (.tup [.int x.1, .int x.2]) (.dT (dictP L)) = some (decide (x ∈ L.map (·.1))) := by
    simp only [inB, keysD_pair, Option.map_some]
    exact congrArg some (dictP_some (x := x))
  unfold inD
  rw [e]
theorem dictP_new {L : List (P2 × D)} {x : P2} {d : D} (h : x ∉ L.map (·.1)) : putD (dictP L) [.inl x.1, .inl x.2] d = dictP (L ++ [(x, d)]) := by
  unfold putD
  have e : ((dictP L).any fun kv => decide (kv.1 = [.inl x.1, .inl x.2])) = false := by
    rw [List.any_eq_false]
    rintro kv hkv
    obtain ⟨q, hq, rfl⟩ := List.mem_map.mp hkv
    simp only [decide_eq_true_eq]
    intro z
    exact h (List.mem_map.mpr ⟨q, hq, kPr_inj (b := x) z⟩)
  rw [e, if_neg (by decide)]
  simp [dictP, kPr]
theorem dictP_len (L : List (P2 × D)) : (dictP L).length = L.length := List.length_map ..
theorem dictP_at {L : List (P2 × D)} {x : P2} (h : x ∈ L.map (·.1)) : ∃ d, (x, d) ∈ L ∧ valD (dictP L) [.inl x.1, .inl x.2] = some d := by
  have e := dictP_val (L := L) (x := x)
  have s := dictP_some (L := L) (x := x)
  rw [e] at s
  simp only [h, decide_true] at s
  obtain ⟨d, hd⟩ := Option.isSome_iff_exists.mp s
  obtain ⟨q, hq, rfl⟩ := Option.map_eq_some_iff.mp hd
  have h1 := List.mem_of_find?_eq_some hq
  have h2 : q.1 = x := by simpa using List.find?_some hq
  refine ⟨q.2, ?_, by rw [show ([Sum.inl x.1, Sum.inl x.2] : List Key) = kPr x from rfl, e, hd]⟩
  rw [← h2]
  exact h1
theorem listT_dictP (L : List (P2 × D)) : listTF [.dT (dictP L)] = .ret (.lst ((L.map (·.1)).map pD)) := by
  show T.ret _ = _
  congr 2
  simp [dictP, kPr, pD, kD]
theorem prsD_pairs : ∀ l : List P2, prsD (l.map pD) = some l
  | [] => rfl
  | p :: l => by
    rw [List.map_cons, prsD, prsD_pairs l]
    rfl
theorem sorted_pairs (l : List P2) : sortedF [.lst (l.map pD)] = .ret (.lst ((sortP l).map pD)) := by
  unfold sortedF
  dsimp only
  rw [prsD_pairs]
  rfl
theorem rgD_iD (n : Int) : rgD 0 n = iD (upL n) := by
  unfold rgD iD upL
  rw [List.map_map]
  simp only [Int.sub_zero]
  apply List.map_congr_left
  intro i _
  show D.int (0 + (i : Int)) = D.int (i : Int)
  rw [Int.zero_add]
theorem nb_pairs (W : List P2) : NbD 61 (.lst (W.map pD)) := nb_lst fun d hd => by
  obtain ⟨p, _, rfl⟩ := List.mem_map.mp hd
  exact pD_nb p
theorem neD_pairs (W : List P2) : neD (.lst (W.map pD)) (.lst []) = .ret (.bl (!decide (W = []))) := by
  by_cases h : W = []
  · rw [h]
    kernel_rfl
  · rw [(eqD_diff (nb_pairs W).nb (by rfl) (Nat.le_trans (nb_pairs W).dp (by decide)) (by decide) fun z => h (by simpa using z)).2]
    simp [h]
theorem ixN_zero (n : Nat) : ixN (n + 1) 0 = some 0 := by simp [ixN]
end Pu
set_option Elab.async false
set_option linter.all false
set_option maxRecDepth 100000
set_option maxHeartbeats 4000000
namespace Stp
open PySem L2
def top (i : Nat) : Stmt := PySem.Challenge.pw_stepsagain_k47_errors_of_the_same.main.body.getD i (.Pass ⟨0, 0, 0, 0⟩)
abbrev sPen : Stmt := top 43
abbrev sNext : Stmt := top 44
abbrev sDraw : Stmt := top 45
section
variable {P : Program} {w : World} {K : PySem.W.Frag} {mg : Str → Option Value} {base : Heap}
theorem scP : FnScope ["_law_script"] ["_law_script"] (defScope sPen) := ⟨rfl, rfl, rfl, by decide +kernel, rfl, by decide +kernel, by decide +kernel⟩
theorem ok_pen {f : Addr} {fd : FuncData} (F : Fun K "_law_pen" "_law_pen" sPen f fd) (T : PenTxt mg) : FnOk P w K mg base CX0 1 f fd ["_law_script"] (spPen K) := by
  refine F.ok scP (fun vs H Q E h => ?_) (fun cdv A outer s H vs Q E hr h => ?_)
  · obtain ⟨a, ns, rfl, _⟩ := h
    rfl
  · obtain ⟨a, ns, rfl, hS, k⟩ := h
    refine ⟨_, pss_one (ps_ret (pe_lst (pa_cons (pe_callTy call_list_of (by rfl) T.list (by decide +kernel) (pa_cons (pe_slice sl_list (pv 0) po_none (po_some pe_int)) pa_nil)) (pa_cons pe_int (pa_cons pe_int pa_nil))))), ?_⟩
    refine ⟨_, rfl, _, rfl, _, _, rfl, hS, fun p1 n1 => ?_⟩
    refine ⟨_, _, rfl, .inl (SqL.of upd_same), fun p2 n2 => ?_⟩
    refine ⟨(by show 3 ≤ sizeLine; decide), fun p3 n3 => ?_⟩
    have d21 : p2 ≠ p1 := fun e => by rw [e, upd_same] at n2; cases n2
    have d32 : p3 ≠ p2 := fun e => by rw [e, upd_same] at n3; cases n3
    have h2 : H p2 = none := by rw [upd_ne d21] at n2; exact n2
    have h3' : upd H p1 (.lst (cutV (ns.map V.int) none (some 60))) p3 = none := by rw [upd_ne d32] at n3; exact n3
    have d31 : p3 ≠ p1 := fun e => by rw [e, upd_same] at h3'; cases h3'
    have h3 : H p3 = none := by rw [upd_ne d31] at h3'; exact h3'
    refine k _ p3 p2 (fun b o e => ?_) h3 h2 ⟨ns.take 60, 0, 0, ⟨upd_same, ?_, by decide⟩, by decide⟩
    · rw [upd_ne (ne_of_none e h3), upd_ne (ne_of_none e h2), upd_ne (ne_of_none e n1)]
      exact e
    · rw [upd_ne d32.symm, upd_same]
      congr 2
      simp only [cutV, HT.sIx_none]
      rw [show (some (60 : Int)) = some ((60 : Nat) : Int) from rfl, HT.sIx_nat]
      simp [List.map_take]
end
section
variable {P : Program} {w : World} {K : PySem.W.Frag} {mg : Str → Option Value} {base : Heap}
theorem scN : FnScope ["_law_pen_here", "_law_index", "_law_cell_here", "_law_some", "_law_more", "_law_top"] ["_law_pen_here"] (defScope sNext) := ⟨rfl, rfl, rfl, by decide +kernel, rfl, by decide +kernel, by decide +kernel⟩
theorem ok_next {f : Addr} {fd : FuncData} (F : Fun K "_law_next" "_law_next" sNext f fd) (T : PenTxt mg) : FnOk P w K mg base CX0 1 f fd ["_law_pen_here"] spNext := by
  refine F.ok scN (fun vs H Q E h => ?_) (fun cdv A outer s H vs Q E hr h => ?_)
  · obtain ⟨p, c, cs, i, r, rfl, _⟩ := h
    rfl
  · obtain ⟨p, c, cs, i, r, rfl, PI, hi, k⟩ := h
    refine ⟨_, 
      pss_cons (ps_set (i := 1) scN.nd rfl (Or.inl rfl) (pe_ix ix_list (pv 0) pe_int (fun _ _ => rfl)))
      (pss_cons (ps_asg (pe_op op_add (pv 1) pe_int) (pg_sub (pv 0) pe_int set_list))
      (pss_cons (ps_set (i := 2) scN.nd rfl (Or.inl rfl) (pe_op op_add (pe_op op_mul (pv 1) pe_int) pe_int))
      (pss_cons (ps_if (pt_cmpR (op_neD hr.units) (pe_ix ix_list (pv 0) pe_int (fun _ _ => rfl)) (pe_lst pa_nil) (nomark _))
        (pss_one (ps_set (i := 2) scN.nd rfl (Or.inl rfl) (pe_ix ix_list (pe_ix ix_list (pv 0) pe_int (fun _ _ => rfl)) (pe_op op_mod (pe_callTy call_int1 (by rfl) T.int (by decide +kernel) (pa_cons (pv 1) pa_nil)) (pe_callB call_len_seq (by rfl) T.len PySem.boot_len (pa_cons (pe_ix ix_list (pv 0) pe_int (fun _ _ => rfl)) pa_nil))) (fun _ _ => rfl)))) pss_nil)
      (pss_cons (ps_if (PW.pt (pw_and (pt_cmpR op_lt (pv 1) (pe_callB call_len_seq (by rfl) T.len PySem.boot_len (pa_cons (pe_ix ix_list (pv 0) pe_int (fun _ _ => rfl)) pa_nil)) (nomark _)) (pw_and1 (pt_cmpR op_ge (pv 2) (pe_op op_pow pe_int pe_int) (nomark _))))) (pss_one (ps_ret (pv 2))) pss_nil)
      (pss_cons (ps_set (i := 3) scN.nd rfl (Or.inl rfl) (pe_op op_mod (pe_callTy call_int1 (by rfl) T.int (by decide +kernel) (pa_cons (pe_op op_add (pe_op op_add (pe_op op_mod (pe_callTy call_int1 (by rfl) T.int (by decide +kernel) (pa_cons (pv 2) pa_nil)) pe_int) (pe_op op_mul (pv 1) pe_int)) pe_int) pa_nil)) pe_int))
      (pss_cons (ps_set (i := 4) scN.nd rfl (Or.inl rfl) (pe_op op_mod (pe_callTy call_int1 (by rfl) T.int (by decide +kernel) (pa_cons (pe_op op_add (pe_op op_add (pe_op op_mul (pv 3) (pv 3)) (pe_op op_mul (pv 1) pe_int)) pe_int) pa_nil)) pe_int))
      (pss_cons (ps_set (i := 5) scN.nd rfl (Or.inl rfl) (pe_op op_mod (pe_callTy call_int1 (by rfl) T.int (by decide +kernel) (pa_cons (pe_op op_add (pe_op op_add (pe_op op_mul (pv 4) (pv 4)) (pv 3)) (pe_op op_mul (pe_op op_mul (pv 1) (pv 1)) pe_int)) pa_nil)) pe_int))
      (pss_one (ps_ret (pe_op op_add (pe_op op_mul (pe_op op_add (pe_op op_mul (pv 5) pe_int) (pv 4)) pe_int) (pv 3))))))))))), ?_⟩
    have ncp := PI.ne
    refine ⟨_, rfl, _, _, _, _, rfl, rfl, SqL.of PI.pen, rfl, ?_⟩
    -- _law_pen_here[1] = _law_index + 1
    refine ⟨_, rfl, _, _, rfl, rfl, _, rfl, _, _, _, 1, rfl, rfl, PI.pen, rfl, ?_⟩
    generalize eH : upd H p _ = H1
    have hp1 : H1 p = some (.lst [.ref c, .int ((i + 1 : Nat) : Int), .int r]) := by
      rw [← eH, upd_same]; rfl
    have hc1 : H1 c = some (.lst (cs.map V.int)) := by rw [← eH, upd_ne ncp]; exact PI.cells
    have b1 : But p H H1 := fun b o n e => by rw [← eH, upd_ne n]; exact e
    -- cell = index * 1061 + 59
    refine ⟨_, rfl, _, _, rfl, rfl, .inr ⟨by decide, by decide⟩, _, _, rfl, rfl, ?_⟩
    -- the rest, for any cell
    have fin : ∀ (cell : Int) (H2 : Hp), But p H H2 → H2 p = some (.lst [.ref c, .int ((i + 1 : Nat) : Int), .int r]) → H2 c = some (.lst (cs.map V.int)) → True := fun _ _ _ _ _ => trivial
    -- if pen[0] != []
    refine ⟨_, rfl, _, _, _, _, rfl, rfl, SqL.of hp1, rfl, Nat.zero_le _, fun l hl => ?_⟩
    generalize eH2 : upd H1 l _ = H2
    have s12 : Same H1 H2 := fun b o e => by rw [← eH2, upd_ne (ne_of_none e hl)]; exact e
    have hl2 : H2 l = some (.lst []) := by rw [← eH2]; exact upd_same
    have hp2 := s12 _ _ hp1
    have hc2 := s12 _ _ hc1
    have b2 : But p H H2 := b1.trans (Same.but s12)
    refine ⟨_, _, .lst (SqL.of hc2) (dp_ints cs), .lst (SqL.of hl2) .nil, (shp_ints cs).ok (by decide), (Shp.list (n := 0) (fun d m => by cases m)).ok (by decide), _, rfl, ?_⟩
    rw [eqv_ints_nil]
    have hlen : ((cs.map V.int).length : Int) = (cs.length : Int) := by rw [List.length_map]
    have hm : ∀ m : Int, 0 < m → ∀ x : Int, 0 ≤ x % m ∧ x % m < m := fun m h x => ⟨Int.emod_nonneg _ (Int.ne_of_gt h), Int.emod_lt_of_pos _ h⟩
    refine ite2 (fun hne => ?a) (fun he => ?b)
    case' a =>
      have hcs : 0 < cs.length := by
        cases cs with
        | nil => simp at hne
        | cons a l => simp
      -- cell = pen[0][int(index) % len(pen[0])]
      refine ⟨_, rfl, _, _, _, _, rfl, rfl, SqL.of hp2, rfl, _, rfl, .inl ⟨_, rfl, ?_⟩⟩
      refine ⟨_, rfl, _, _, _, _, rfl, rfl, SqL.of hp2, rfl, c, _, rfl, .inl (SqL.of hc2), ?_⟩
      refine ⟨_, _, rfl, rfl, (by rw [hlen]; omega), ?_⟩
      rw [hlen]
      have hb := hm (cs.length : Int) (by omega) (i : Int)
      obtain ⟨j, hj⟩ := Int.eq_ofNat_of_zero_le hb.1
      have hjl : j < cs.length := by omega
      refine ⟨c, _, _, .int cs[j], rfl, rfl, SqL.of hc2, by rw [hj]; exact atI_nat (by rw [List.getElem?_map, List.getElem?_eq_getElem hjl]; rfl), ?_⟩
      generalize cs[j] = cell
    all_goals
      refine ⟨_, rfl, _, rfl, _, _, _, _, rfl, rfl, SqL.of hp2, rfl, c, _, rfl, .inl (SqL.of hc2), _, _, rfl, rfl, _, rfl, ?_⟩
      have fin : ∀ v : Int, 0 ≤ v → Q (.int v) H2 := fun v hv => k H2 v b2 ⟨hp2, hc2, PI.pos⟩ hv
      refine ite2 (fun h1 => ?_) (fun h1 => ?_)
      · refine ⟨_, rfl, _, _, rfl, rfl, ⟨by decide, by decide, by decide⟩, _, _, rfl, rfl, _, rfl, ?_⟩
        refine ite2 (fun h2 => ?_) (fun h2 => ?_)
        · refine ⟨_, rfl, fin _ ?_⟩
          have h3 := of_decide_eq_true h2
          rw [show (10 : Int) ^ (18 : Int).toNat = 1000000000000000000 by decide] at h3
          omega
        · refine ⟨_, rfl, .inl ⟨_, rfl, _, _, rfl, rfl, (by show (0 : Int) < 2147483587; decide), _, rfl, _, _, rfl, rfl, .inr ⟨by decide, by decide⟩, _, _, rfl, rfl, _, _, rfl, rfl, .inl ⟨_, rfl, _, _, rfl, rfl, (by show (0 : Int) < 2147483587; decide), ?_⟩⟩⟩
          refine ⟨_, rfl, _, rfl, _, _, rfl, rfl, .inl ⟨by omega, by omega⟩, _, rfl, _, _, rfl, rfl, .inr ⟨by decide, by decide⟩, _, _, rfl, rfl, _, _, rfl, rfl, .inl ⟨_, rfl, _, _, rfl, rfl, (by show (0 : Int) < 2147483563; decide), ?_⟩⟩
          refine ⟨_, rfl, _, rfl, _, _, rfl, rfl, .inl ⟨by omega, by omega⟩, _, rfl, _, _, rfl, rfl, _, rfl, _, rfl, _, _, rfl, rfl, .inl ⟨by omega, by omega⟩, _, _, rfl, rfl, .inr ⟨by decide, by decide⟩, _, _, rfl, rfl, .inl ⟨_, rfl, _, _, rfl, rfl, (by show (0 : Int) < 2147483549; decide), ?_⟩⟩
          refine ⟨_, rfl, _, _, rfl, rfl, .inr ⟨by decide, by decide⟩, _, rfl, _, _, rfl, rfl, _, _, rfl, rfl, .inr ⟨by decide, by decide⟩, _, rfl, _, _, rfl, rfl, fin _ ?_⟩
          show (0 : Int) ≤ _
          omega
      · refine ⟨_, rfl, .inl ⟨_, rfl, _, _, rfl, rfl, (by show (0 : Int) < 2147483587; decide), _, rfl, _, _, rfl, rfl, .inr ⟨by decide, by decide⟩, _, _, rfl, rfl, _, _, rfl, rfl, .inl ⟨_, rfl, _, _, rfl, rfl, (by show (0 : Int) < 2147483587; decide), ?_⟩⟩⟩
        refine ⟨_, rfl, _, rfl, _, _, rfl, rfl, .inl ⟨by omega, by omega⟩, _, rfl, _, _, rfl, rfl, .inr ⟨by decide, by decide⟩, _, _, rfl, rfl, _, _, rfl, rfl, .inl ⟨_, rfl, _, _, rfl, rfl, (by show (0 : Int) < 2147483563; decide), ?_⟩⟩
        refine ⟨_, rfl, _, rfl, _, _, rfl, rfl, .inl ⟨by omega, by omega⟩, _, rfl, _, _, rfl, rfl, _, rfl, _, rfl, _, _, rfl, rfl, .inl ⟨by omega, by omega⟩, _, _, rfl, rfl, .inr ⟨by decide, by decide⟩, _, _, rfl, rfl, .inl ⟨_, rfl, _, _, rfl, rfl, (by show (0 : Int) < 2147483549; decide), ?_⟩⟩
        refine ⟨_, rfl, _, _, rfl, rfl, .inr ⟨by decide, by decide⟩, _, rfl, _, _, rfl, rfl, _, _, rfl, rfl, .inr ⟨by decide, by decide⟩, _, rfl, _, _, rfl, rfl, fin _ ?_⟩
        show (0 : Int) ≤ _
        omega
end
section
variable {P : Program} {w : World} {K : PySem.W.Frag} {mg : Str → Option Value} {base : Heap}
theorem scD : FnScope ["_law_pen_here", "_law_under", "_law_digit"] ["_law_pen_here", "_law_under"] (defScope sDraw) := ⟨rfl, rfl, rfl, by decide +kernel, rfl, by decide +kernel, by decide +kernel⟩
theorem ok_draw {f fN : Addr} {fd fdN : FuncData} (F : Fun K "_law_draw" "_law_draw" sDraw f fd) (T : PenTxt mg) (FN : Fun K "_law_next" "_law_next" sNext fN fdN) (mN : mg "_law_next" = some (.ref fN)) (bN : Binds K fdN ["_law_pen_here"] []) : FnOk P w K mg base CX0 2 f fd ["_law_pen_here", "_law_under"] spDraw := by
  have GN : FnOk P w K mg base CX0 1 fN fdN ["_law_pen_here"] spNext := ok_next FN T
  refine F.ok scD (fun vs H Q E h => ?_) (fun cdv A outer s H vs Q E hr h => ?_)
  · obtain ⟨p, c, u, n, rfl, _⟩ := h
    rfl
  · obtain ⟨p, c, u, n, rfl, ⟨cs, i, r, PI, hin⟩, hn, hu0, hu1, k⟩ := h
    refine ⟨_,
      pss_cons (ps_if (pt_cmpR op_lt (pe_ix ix_list (pv 0) pe_int (fun _ _ => rfl)) (pv 1) (nomark _))
        (pss_one (ps_asg (pe_call GN hr rfl mN FN.kp bN .nil pass0 (pa_cons (pv 0) pa_nil)) (pg_sub (pv 0) pe_int set_list))) pss_nil)
      (pss_cons (ps_set (i := 2) scD.nd rfl (Or.inl rfl) (pe_op op_mod (pe_callTy call_int1 (by rfl) T.int (by decide +kernel) (pa_cons (pe_ix ix_list (pv 0) pe_int (fun _ _ => rfl)) pa_nil)) (pv 1)))
      (pss_cons (ps_asg (pe_op op_fdiv (pe_ix ix_list (pv 0) pe_int (fun _ _ => rfl)) (pv 1)) (pg_sub (pv 0) pe_int set_list))
      (pss_one (ps_ret (pv 2))))), ?_⟩
    refine ⟨_, rfl, _, _, _, _, rfl, rfl, SqL.of PI.pen, rfl, _, rfl, _, _, rfl, rfl, _, rfl, ?_⟩
    refine ite2 (fun h1 => ?a) (fun h1 => ?b)
    case' a =>
      refine ⟨_, rfl, p, c, cs, i, r, rfl, PI, by omega, fun H1 v b1 PI1 hv => ?_⟩
      refine ⟨_, rfl, _, _, _, 2, rfl, rfl, PI1.pen, rfl, ?_⟩
      generalize eH : upd H1 p _ = H2
      have PI2 : PenIs H2 p c cs (i + 1) v := ⟨by rw [← eH, upd_same]; rfl, by rw [← eH, upd_ne PI1.ne]; exact PI1.cells, hv⟩
      have b2 : But p H H2 := by rw [← eH]; exact b1.upd
    case' b =>
      have PI2 : PenIs H p c cs i r := PI
      have b2 : But p H H := But.refl p H
    all_goals
      refine ⟨_, rfl, _, _, _, _, rfl, rfl, SqL.of PI2.pen, rfl, .inl ⟨_, rfl, _, rfl, _, _, rfl, rfl, hu0, ?_⟩⟩
      refine ⟨_, rfl, _, _, _, _, rfl, rfl, SqL.of PI2.pen, rfl, _, rfl, _, _, rfl, rfl, ⟨hu0, hu1⟩, _, rfl, _, _, _, 2, rfl, rfl, PI2.pen, rfl, ?_⟩
      refine ⟨_, rfl, ?_⟩
      refine k _ _ b2.upd ⟨cs, _, _, ⟨upd_same, by rw [upd_ne PI2.ne]; exact PI2.cells, Int.ediv_nonneg PI2.pos (by omega)⟩, by omega⟩ (Int.emod_nonneg _ (by omega)) (Int.emod_lt_of_pos _ hu0)
end
end Stp
set_option Elab.async false
set_option linter.all false
set_option maxRecDepth 100000
set_option maxHeartbeats 4000000
namespace Gx
open PySem L2 Stp NdefX LamX Pu
open PyProof.Rows hiding St
def top (i : Nat) : Stmt := PySem.Challenge.pw_stepsagain_k47_errors_of_the_same.main.body.getD i (.Pass ⟨0, 0, 0, 0⟩)
def cTab : List (Nat × Str) := [(0, "Machine"), (1, "Writer"), (2, "Reader"), (100, "LineError"), (101, "InvalidWriter"), (102, "InvalidReader"), (103, "UnknownState"), (104, "InvalidInput"), (105, "InvalidSign"), (106, "Mismatch"), (107, "InvalidPair")]
def kRows0 : List KRow := [((.b "int", .c 107), false), ((.b "int", .c 106), false), ((.b "int", .c 103), false), ((.b "int", .c 1), false), ((.b "int", .b "bool"), false), ((.b "int", .b "int"), true), ((.b "int", .b "list"), false), ((.b "int", .b "tuple"), false), ((.b "bool", .c 107), false), ((.b "bool", .c 106), false), ((.b "bool", .c 103), false), ((.b "bool", .c 1), false), ((.b "bool", .b "bool"), true), ((.b "bool", .b "int"), true), ((.b "bool", .b "list"), false), ((.b "bool", .b "tuple"), false), ((.b "str", .c 107), false), ((.b "str", .c 106), false), ((.b "str", .c 103), false), ((.b "str", .c 1), false), ((.b "str", .b "bool"), false), ((.b "str", .b "int"), false), ((.b "str", .b "list"), false), ((.b "str", .b "tuple"), false), ((.b "list", .c 107), false), ((.b "list", .c 106), false), ((.b "list", .c 103), false), ((.b "list", .c 1), false), ((.b "list", .b "bool"), false), ((.b "list", .b "int"), false)]
def kRows1 : List KRow := [((.b "list", .b "list"), true), ((.b "list", .b "tuple"), false), ((.b "tuple", .c 107), false), ((.b "tuple", .c 106), false), ((.b "tuple", .c 103), false), ((.b "tuple", .c 1), false), ((.b "tuple", .b "bool"), false), ((.b "tuple", .b "int"), false), ((.b "tuple", .b "list"), false), ((.b "tuple", .b "tuple"), true), ((.b "dict", .c 107), false), ((.b "dict", .c 106), false), ((.b "dict", .c 103), false), ((.b "dict", .c 1), false), ((.b "dict", .b "bool"), false), ((.b "dict", .b "int"), false), ((.b "dict", .b "list"), false), ((.b "dict", .b "tuple"), false), ((.b "NoneType", .c 107), false), ((.b "NoneType", .c 106), false), ((.b "NoneType", .c 103), false), ((.b "NoneType", .c 1), false), ((.b "NoneType", .b "bool"), false), ((.b "NoneType", .b "int"), false), ((.b "NoneType", .b "list"), false), ((.b "NoneType", .b "tuple"), false), ((.c 0, .c 107), false), ((.c 0, .c 106), false), ((.c 0, .c 103), false), ((.c 0, .c 1), false)]
def kRows2 : List KRow := [((.c 0, .b "bool"), false), ((.c 0, .b "int"), false), ((.c 0, .b "list"), false), ((.c 0, .b "tuple"), false), ((.c 1, .c 107), false), ((.c 1, .c 106), false), ((.c 1, .c 103), false), ((.c 1, .c 1), true), ((.c 1, .b "bool"), false), ((.c 1, .b "int"), false), ((.c 1, .b "list"), false), ((.c 1, .b "tuple"), false), ((.c 2, .c 107), false), ((.c 2, .c 106), false), ((.c 2, .c 103), false), ((.c 2, .c 1), false), ((.c 2, .b "bool"), false), ((.c 2, .b "int"), false), ((.c 2, .b "list"), false), ((.c 2, .b "tuple"), false), ((.c 100, .c 107), false), ((.c 100, .c 106), false), ((.c 100, .c 103), false), ((.c 100, .c 1), false), ((.c 100, .b "bool"), false), ((.c 100, .b "int"), false), ((.c 100, .b "list"), false), ((.c 100, .b "tuple"), false), ((.c 101, .c 107), false), ((.c 101, .c 106), false)]
def kRows3 : List KRow := [((.c 101, .c 103), false), ((.c 101, .c 1), false), ((.c 101, .b "bool"), false), ((.c 101, .b "int"), false), ((.c 101, .b "list"), false), ((.c 101, .b "tuple"), false), ((.c 102, .c 107), false), ((.c 102, .c 106), false), ((.c 102, .c 103), false), ((.c 102, .c 1), false), ((.c 102, .b "bool"), false), ((.c 102, .b "int"), false), ((.c 102, .b "list"), false), ((.c 102, .b "tuple"), false), ((.c 103, .c 107), false), ((.c 103, .c 106), false), ((.c 103, .c 103), true), ((.c 103, .c 1), false), ((.c 103, .b "bool"), false), ((.c 103, .b "int"), false), ((.c 103, .b "list"), false), ((.c 103, .b "tuple"), false), ((.c 104, .c 107), false), ((.c 104, .c 106), false), ((.c 104, .c 103), false), ((.c 104, .c 1), false), ((.c 104, .b "bool"), false), ((.c 104, .b "int"), false), ((.c 104, .b "list"), false), ((.c 104, .b "tuple"), false)]
def kRows4 : List KRow := [((.c 105, .c 107), false), ((.c 105, .c 106), false), ((.c 105, .c 103), false), ((.c 105, .c 1), false), ((.c 105, .b "bool"), false), ((.c 105, .b "int"), false), ((.c 105, .b "list"), false), ((.c 105, .b "tuple"), false), ((.c 106, .c 107), false), ((.c 106, .c 106), true), ((.c 106, .c 103), false), ((.c 106, .c 1), false), ((.c 106, .b "bool"), false), ((.c 106, .b "int"), false), ((.c 106, .b "list"), false), ((.c 106, .b "tuple"), false), ((.c 107, .c 107), true), ((.c 107, .c 106), false), ((.c 107, .c 103), false), ((.c 107, .c 1), false), ((.c 107, .b "bool"), false), ((.c 107, .b "int"), false), ((.c 107, .b "list"), false), ((.c 107, .b "tuple"), false)]
def kRows : List KRow := kRows0 ++ kRows1 ++ kRows2 ++ kRows3 ++ kRows4
def kTb : KTab := tabK kRows
def eTys : List KT := [.b "int", .b "bool", .b "str", .b "list", .b "tuple", .b "dict", .b "NoneType", .c 0, .c 1, .c 2]
def xmRows_2 : List (Nat × Bool) := [(100, true), (101, true), (102, true), (103, true), (104, true), (105, true), (106, true), (107, true)]
def xm_2 : Nat → Option Bool := fun k => xmRows_2.lookup k
abbrev s_12 : Stmt := top 12
abbrev s_13 : Stmt := top 13
abbrev s_14 : Stmt := top 14
abbrev s_24 : Stmt := top 24
abbrev s_25 : Stmt := top 25
abbrev s_26 : Stmt := top 26
abbrev s_27 : Stmt := top 27
abbrev s_28 : Stmt := top 28
abbrev s_29 : Stmt := top 29
abbrev s_30002 : Stmt := (C8.clsBody (top 30)).getD 2 (.Pass ⟨0, 0, 0, 0⟩)
abbrev s_33 : Stmt := top 33
abbrev s_30001 : Stmt := (C8.clsBody (top 30)).getD 1 (.Pass ⟨0, 0, 0, 0⟩)
abbrev s_35 : Stmt := top 35
abbrev s_36 : Stmt := top 36
abbrev s_30005 : Stmt := (C8.clsBody (top 30)).getD 5 (.Pass ⟨0, 0, 0, 0⟩)
abbrev s_31001 : Stmt := (C8.clsBody (top 31)).getD 1 (.Pass ⟨0, 0, 0, 0⟩)
abbrev s_31002 : Stmt := (C8.clsBody (top 31)).getD 2 (.Pass ⟨0, 0, 0, 0⟩)
abbrev s_32001 : Stmt := (C8.clsBody (top 32)).getD 1 (.Pass ⟨0, 0, 0, 0⟩)
abbrev s_32002 : Stmt := (C8.clsBody (top 32)).getD 2 (.Pass ⟨0, 0, 0, 0⟩)
abbrev s_37 : Stmt := top 37
abbrev s_38 : Stmt := top 38
abbrev s_39 : Stmt := top 39
abbrev s_40 : Stmt := top 40
abbrev s_41 : Stmt := top 41
abbrev s_46 : Stmt := top 46
abbrev s_47 : Stmt := top 47
abbrev s_48 : Stmt := top 48
abbrev s_49 : Stmt := top 49
abbrev s_30000 : Stmt := (C8.clsBody (top 30)).getD 0 (.Pass ⟨0, 0, 0, 0⟩)
abbrev s_31000 : Stmt := (C8.clsBody (top 31)).getD 0 (.Pass ⟨0, 0, 0, 0⟩)
abbrev s_50 : Stmt := top 50
abbrev s_32000 : Stmt := (C8.clsBody (top 32)).getD 0 (.Pass ⟨0, 0, 0, 0⟩)
abbrev s_51 : Stmt := top 51
abbrev s_52 : Stmt := top 52
abbrev s_53 : Stmt := top 53
abbrev s_54 : Stmt := top 54
abbrev s_55 : Stmt := top 55
abbrev s_56 : Stmt := top 56
abbrev s_57 : Stmt := top 57
abbrev s_58 : Stmt := top 58
abbrev s_59 : Stmt := top 59
abbrev s_60 : Stmt := top 60
def la_1 : Arguments × Expr × Scope := match (defBody s_31000).getD 1 (.Pass ⟨0, 0, 0, 0⟩) with
  | .If (.UnaryOp _ (.Call _ (_ :: .Lambda p b s _ :: _) _ _) _) _ _ _ => (p, b, s)
  | _ => lamZ
def l_1 : LamD := ⟨"Writer.__init__.<locals>.<lambda>", la_1.1, la_1.2.1, la_1.2.2, ["signs"]⟩
def la_2 : Arguments × Expr × Scope := match (defBody s_32000).getD 1 (.Pass ⟨0, 0, 0, 0⟩) with
  | .If (.UnaryOp _ (.Call _ (_ :: .Lambda p b s _ :: _) _ _) _) _ _ _ => (p, b, s)
  | _ => lamZ
def l_2 : LamD := ⟨"Reader.__init__.<locals>.<lambda>", la_2.1, la_2.2.1, la_2.2.2, ["data"]⟩
def nm_31000 : Nat → Nat → Str := fun _ _ => "Writer.__init__.<locals>.<lambda>"
def nm_32000 : Nat → Nat → Str := fun _ _ => "Reader.__init__.<locals>.<lambda>"
def LT : Nat → Option LamD := fun i => ([(1, l_1), (2, l_2)] : List (Nat × LamD)).lookup i
structure Fx (P : Program) (w : World) (K : PySem.W.Frag) (mg : Str → Option Value) (base : Heap) (G : GC) (f cd tb : Nat → Addr) (fd : Nat → FuncData) : Prop where
  hk : K = G.K
  TF : TyF G
  TB : TbF G kTb
  gf : GF G LT
  F_12 : Fun K "is_integer" "is_integer" (top 12) (f 12) (fd 12)
  b_12 : L2.Binds K (fd 12) ["thing"] []
  g_12 : mg "is_integer" = some (.ref (f 12))
  n_isinstance : mg "isinstance" = none
  n_bool : mg "bool" = none
  n_int : mg "int" = none
  F_13 : Fun K "is_below" "is_below" (top 13) (f 13) (fd 13)
  b_13 : L2.Binds K (fd 13) ["thing", "count"] []
  g_13 : mg "is_below" = some (.ref (f 13))
  F_14 : Fun K "is_word" "is_word" (top 14) (f 14) (fd 14)
  b_14 : L2.Binds K (fd 14) ["thing", "signs"] []
  g_14 : mg "is_word" = some (.ref (f 14))
  n_all : mg "all" = none
  n_len : mg "len" = none
  k_MAX_WORD : ∃ t, mg "MAX_WORD" = some (.int (12) t)
  n_tuple : mg "tuple" = none
  F_24 : Fun K "are_numbers" "are_numbers" (top 24) (f 24) (fd 24)
  b_24 : L2.Binds K (fd 24) ["signs", "data"] []
  g_24 : mg "are_numbers" = some (.ref (f 24))
  k_MAX_DATA : ∃ t, mg "MAX_DATA" = some (.int (6) t)
  k_MIN_SIGNS : ∃ t, mg "MIN_SIGNS" = some (.int (2) t)
  k_MAX_SIGNS : ∃ t, mg "MAX_SIGNS" = some (.int (6) t)
  F_25 : Fun K "is_input" "is_input" (top 25) (f 25) (fd 25)
  b_25 : L2.Binds K (fd 25) ["thing", "data"] []
  g_25 : mg "is_input" = some (.ref (f 25))
  k_END : ∃ t, mg "END" = some (.int (-1) t)
  F_26 : Fun K "are_events" "are_events" (top 26) (f 26) (fd 26)
  b_26 : L2.Binds K (fd 26) ["thing", "data"] []
  g_26 : mg "are_events" = some (.ref (f 26))
  k_MAX_EVENTS : ∃ t, mg "MAX_EVENTS" = some (.int (8) t)
  k_DROP : ∃ t, mg "DROP" = some (.int (-2) t)
  F_27 : Fun K "is_move" "is_move" (top 27) (f 27) (fd 27)
  b_27 : L2.Binds K (fd 27) ["thing", "fits", "states"] []
  g_27 : mg "is_move" = some (.ref (f 27))
  F_28 : Fun K "is_row" "is_row" (top 28) (f 28) (fd 28)
  b_28 : L2.Binds K (fd 28) ["thing", "fits", "moves", "states"] []
  g_28 : mg "is_row" = some (.ref (f 28))
  n_list : mg "list" = none
  F_29 : Fun K "are_rows" "are_rows" (top 29) (f 29) (fd 29)
  b_29 : L2.Binds K (fd 29) ["thing", "fits", "moves", "most"] []
  g_29 : mg "are_rows" = some (.ref (f 29))
  F_30002 : Fun K "data" "Machine.data" ((C8.clsBody (top 30)).getD 2 (.Pass ⟨0, 0, 0, 0⟩)) (f 30002) (fd 30002)
  b_30002 : L2.Binds K (fd 30002) ["self"] []
  g_30 : mg "Machine" = some (.ref (f 30))
  a_30 : G.cA 0 = some (f 30)
  g_31 : mg "Writer" = some (.ref (f 31))
  a_31 : G.cA 1 = some (f 31)
  g_32 : mg "Reader" = some (.ref (f 32))
  a_32 : G.cA 2 = some (f 32)
  fl_kinds : ∀ c ∈ [0, 1, 2], ∀ A, G.cA c = some A → Cls G.K A ∧ NoAttr G.K A "kinds"
  F_33 : Fun K "inputs_of" "inputs_of" (top 33) (f 33) (fd 33)
  b_33 : L2.Binds K (fd 33) ["machine"] []
  g_33 : mg "inputs_of" = some (.ref (f 33))
  n_range : mg "range" = none
  p_data : ∀ c ∈ [0, 1, 2], ∀ A, G.cA c = some A → Cls G.K A ∧ ∃ p, PropOf G.K A "data" p (f 30002)
  F_30001 : Fun K "signs" "Machine.signs" ((C8.clsBody (top 30)).getD 1 (.Pass ⟨0, 0, 0, 0⟩)) (f 30001) (fd 30001)
  b_30001 : L2.Binds K (fd 30001) ["self"] []
  fl_letters : ∀ c ∈ [0, 1, 2], ∀ A, G.cA c = some A → Cls G.K A ∧ NoAttr G.K A "letters"
  F_35 : Fun K "check_same_kind" "check_same_kind" (top 35) (f 35) (fd 35)
  b_35 : L2.Binds K (fd 35) ["machine", "other"] []
  g_35 : mg "check_same_kind" = some (.ref (f 35))
  g_8 : mg "Mismatch" = some (.ref (f 8))
  a_8 : G.cA 106 = some (f 8)
  r_8 : RaiC G.K He.veBase "ValueError.__new__" (f 8)
  p_signs : ∀ c ∈ [0, 1, 2], ∀ A, G.cA c = some A → Cls G.K A ∧ ∃ p, PropOf G.K A "signs" p (f 30001)
  F_36 : Fun K "steps_of" "steps_of" (top 36) (f 36) (fd 36)
  b_36 : L2.Binds K (fd 36) ["machine"] []
  g_36 : mg "steps_of" = some (.ref (f 36))
  F_30005 : Fun K "check_state" "Machine.check_state" ((C8.clsBody (top 30)).getD 5 (.Pass ⟨0, 0, 0, 0⟩)) (f 30005) (fd 30005)
  b_30005 : L2.Binds K (fd 30005) ["self", "state"] []
  fl_table : ∀ c ∈ [0, 1, 2], ∀ A, G.cA c = some A → Cls G.K A ∧ NoAttr G.K A "table"
  g_5 : mg "UnknownState" = some (.ref (f 5))
  a_5 : G.cA 103 = some (f 5)
  r_5 : RaiC G.K He.veBase "ValueError.__new__" (f 5)
  F_31001 : Fun K "place" "Writer.place" ((C8.clsBody (top 31)).getD 1 (.Pass ⟨0, 0, 0, 0⟩)) (f 31001) (fd 31001)
  b_31001 : L2.Binds K (fd 31001) ["self", "state", "thing"] []
  m_31_check_state : Cls K (f 31) ∧ Meth K (f 31) "check_state" (f 30005)
  g_6 : mg "InvalidInput" = some (.ref (f 6))
  a_6 : G.cA 104 = some (f 6)
  r_6 : RaiC G.K He.veBase "ValueError.__new__" (f 6)
  F_31002 : Fun K "step" "Writer.step" ((C8.clsBody (top 31)).getD 2 (.Pass ⟨0, 0, 0, 0⟩)) (f 31002) (fd 31002)
  b_31002 : L2.Binds K (fd 31002) ["self", "state", "thing"] []
  m_31_place : Cls K (f 31) ∧ Meth K (f 31) "place" (f 31001)
  F_32001 : Fun K "place" "Reader.place" ((C8.clsBody (top 32)).getD 1 (.Pass ⟨0, 0, 0, 0⟩)) (f 32001) (fd 32001)
  b_32001 : L2.Binds K (fd 32001) ["self", "state", "thing"] []
  m_32_check_state : Cls K (f 32) ∧ Meth K (f 32) "check_state" (f 30005)
  g_7 : mg "InvalidSign" = some (.ref (f 7))
  a_7 : G.cA 105 = some (f 7)
  r_7 : RaiC G.K He.veBase "ValueError.__new__" (f 7)
  F_32002 : Fun K "step" "Reader.step" ((C8.clsBody (top 32)).getD 2 (.Pass ⟨0, 0, 0, 0⟩)) (f 32002) (fd 32002)
  b_32002 : L2.Binds K (fd 32002) ["self", "state", "thing"] []
  m_32_place : Cls K (f 32) ∧ Meth K (f 32) "place" (f 32001)
  F_37 : Fun K "search" "search" (top 37) (f 37) (fd 37)
  b_37 : L2.Binds K (fd 37) ["machine", "other"] []
  g_37 : mg "search" = some (.ref (f 37))
  m_31_step : Cls K (f 31) ∧ Meth K (f 31) "step" (f 31002)
  m_32_step : Cls K (f 32) ∧ Meth K (f 32) "step" (f 32002)
  F_38 : Fun K "apart" "apart" (top 38) (f 38) (fd 38)
  b_38 : L2.Binds K (fd 38) ["machine", "other"] []
  g_38 : mg "apart" = some (.ref (f 38))
  F_39 : Fun K "together" "together" (top 39) (f 39) (fd 39)
  b_39 : L2.Binds K (fd 39) ["machine", "other"] []
  g_39 : mg "together" = some (.ref (f 39))
  n_sorted : mg "sorted" = none
  F_40 : Fun K "is_pair" "is_pair" (top 40) (f 40) (fd 40)
  b_40 : L2.Binds K (fd 40) ["machine", "other", "thing"] []
  g_40 : mg "is_pair" = some (.ref (f 40))
  F_41 : Fun K "is_together" "is_together" (top 41) (f 41) (fd 41)
  b_41 : L2.Binds K (fd 41) ["machine", "other", "thing"] []
  g_41 : mg "is_together" = some (.ref (f 41))
  F_46 : Fun K "_law_word" "_law_word" (top 46) (f 46) (fd 46)
  b_46 : L2.Binds K (fd 46) ["_law_pen_here", "_law_many", "_law_most"] []
  g_46 : mg "_law_word" = some (.ref (f 46))
  F_45 : Fun K "_law_draw" "_law_draw" (top 45) (f 45) (fd 45)
  b_45 : L2.Binds K (fd 45) ["_law_pen_here", "_law_under"] []
  g_45 : mg "_law_draw" = some (.ref (f 45))
  F_47 : Fun K "_law_told_some" "_law_told_some" (top 47) (f 47) (fd 47)
  b_47 : L2.Binds K (fd 47) ["_law_pen_here", "_law_kinds", "_law_most"] []
  g_47 : mg "_law_told_some" = some (.ref (f 47))
  F_48 : Fun K "_law_writer" "_law_writer" (top 48) (f 48) (fd 48)
  b_48 : L2.Binds K (fd 48) ["_law_pen_here", "_law_many", "_law_kinds", "_law_most", "_law_longest_word"] []
  g_48 : mg "_law_writer" = some (.ref (f 48))
  F_49 : Fun K "_law_reader" "_law_reader" (top 49) (f 49) (fd 49)
  b_49 : L2.Binds K (fd 49) ["_law_pen_here", "_law_many", "_law_kinds", "_law_most", "_law_most_told"] []
  g_49 : mg "_law_reader" = some (.ref (f 49))
  F_30000 : Fun K "__init__" "Machine.__init__" ((C8.clsBody (top 30)).getD 0 (.Pass ⟨0, 0, 0, 0⟩)) (f 30000) (fd 30000)
  b_30000 : L2.Binds K (fd 30000) ["self", "signs", "data", "rows"] []
  F_31000 : Fun K "__init__" "Writer.__init__" ((C8.clsBody (top 31)).getD 0 (.Pass ⟨0, 0, 0, 0⟩)) (f 31000) (fd 31000)
  b_31000 : L2.Binds K (fd 31000) ["self", "signs", "data", "rows"] []
  hc_31000 : (fd 31000).code = .ref (cd 31000)
  TB_31000 : TabB base mg (cd 31000) (tb 31000)
  tm_31000 : (tb 31000, nm_31000) ∈ G.T
  tu_31000 : ∀ p ∈ G.T, p.1 = tb 31000 → p.2 = nm_31000
  g_3 : mg "InvalidWriter" = some (.ref (f 3))
  a_3 : G.cA 101 = some (f 3)
  r_3 : RaiC G.K He.veBase "ValueError.__new__" (f 3)
  k_MAX_WRITER : ∃ t, mg "MAX_WRITER" = some (.int (24) t)
  cr_30 : ClX.CRead K (f 30) (.type "type") ∧ PySem.W.findCls K (.ref (f 30)) (.type "type") "__init__" = some (.val (.ref (f 30000))) ∧ PySem.W.keepIn K (.ref (f 30000)) = true
  F_50 : Fun K "_law_writer_of" "_law_writer_of" (top 50) (f 50) (fd 50)
  b_50 : L2.Binds K (fd 50) ["_law_machine"] []
  g_50 : mg "_law_writer_of" = some (.ref (f 50))
  mk_31 : Mk K (f 31) (f 31000)
  F_32000 : Fun K "__init__" "Reader.__init__" ((C8.clsBody (top 32)).getD 0 (.Pass ⟨0, 0, 0, 0⟩)) (f 32000) (fd 32000)
  b_32000 : L2.Binds K (fd 32000) ["self", "signs", "data", "rows"] []
  hc_32000 : (fd 32000).code = .ref (cd 32000)
  TB_32000 : TabB base mg (cd 32000) (tb 32000)
  tm_32000 : (tb 32000, nm_32000) ∈ G.T
  tu_32000 : ∀ p ∈ G.T, p.1 = tb 32000 → p.2 = nm_32000
  g_4 : mg "InvalidReader" = some (.ref (f 4))
  a_4 : G.cA 102 = some (f 4)
  r_4 : RaiC G.K He.veBase "ValueError.__new__" (f 4)
  k_MAX_READER : ∃ t, mg "MAX_READER" = some (.int (40) t)
  F_51 : Fun K "_law_reader_of" "_law_reader_of" (top 51) (f 51) (fd 51)
  b_51 : L2.Binds K (fd 51) ["_law_machine"] []
  g_51 : mg "_law_reader_of" = some (.ref (f 51))
  mk_32 : Mk K (f 32) (f 32000)
  F_52 : Fun K "_law_plain" "_law_plain" (top 52) (f 52) (fd 52)
  b_52 : L2.Binds K (fd 52) ["_law_kinds"] []
  g_52 : mg "_law_plain" = some (.ref (f 52))
  F_53 : Fun K "_law_escaped" "_law_escaped" (top 53) (f 53) (fd 53)
  b_53 : L2.Binds K (fd 53) ["_law_kinds"] []
  g_53 : mg "_law_escaped" = some (.ref (f 53))
  F_54 : Fun K "_law_late" "_law_late" (top 54) (f 54) (fd 54)
  b_54 : L2.Binds K (fd 54) ["_law_kinds"] []
  g_54 : mg "_law_late" = some (.ref (f 54))
  F_55 : Fun K "_law_doubled" "_law_doubled" (top 55) (f 55) (fd 55)
  b_55 : L2.Binds K (fd 55) ["_law_kinds"] []
  g_55 : mg "_law_doubled" = some (.ref (f 55))
  F_56 : Fun K "_law_turning" "_law_turning" (top 56) (f 56) (fd 56)
  b_56 : L2.Binds K (fd 56) ["_law_kinds"] []
  g_56 : mg "_law_turning" = some (.ref (f 56))
  F_57 : Fun K "_law_changed" "_law_changed" (top 57) (f 57) (fd 57)
  b_57 : L2.Binds K (fd 57) ["_law_pen_here", "_law_duo_here"] []
  g_57 : mg "_law_changed" = some (.ref (f 57))
  F_58 : Fun K "_law_duo" "_law_duo" (top 58) (f 58) (fd 58)
  b_58 : L2.Binds K (fd 58) ["_law_pen_here", "_law_most_kinds"] []
  g_58 : mg "_law_duo" = some (.ref (f 58))
  n_max : mg "max" = none
  F_59 : Fun K "_law_error" "_law_error" (top 59) (f 59) (fd 59)
  b_59 : L2.Binds K (fd 59) ["_law_one", "_law_two", "_law_road"] []
  g_59 : mg "_law_error" = some (.ref (f 59))
  g_2 : mg "LineError" = some (.ref (f 2))
  a_2 : G.cA 100 = some (f 2)
  g_9 : mg "InvalidPair" = some (.ref (f 9))
  a_9 : G.cA 107 = some (f 9)
  x_2 : ∀ k A b, xm_2 k = some b → G.cA k = some A → PySem.W.exmOne G.K (.ref A) (.ref (f 2)) = some b
  F_60 : Fun K "law" "law" (top 60) (f 60) (fd 60)
  b_60 : L2.Binds K (fd 60) ["_law_script"] []
  g_60 : mg "law" = some (.ref (f 60))
  F_43 : Fun K "_law_pen" "_law_pen" (top 43) (f 43) (fd 43)
  b_43 : L2.Binds K (fd 43) ["_law_script"] []
  g_43 : mg "_law_pen" = some (.ref (f 43))
  F_44 : Fun K "_law_next" "_law_next" (top 44) (f 44) (fd 44)
  b_44 : L2.Binds K (fd 44) ["_law_pen_here"] []
  g_44 : mg "_law_next" = some (.ref (f 44))
  TP : Stp.PenTxt mg
def c_45 : { m : List D → T D // ∀ {P : Program} {w : World} {K : PySem.W.Frag} {mg : Str → Option Value} {base : Heap} {G : GC} {f cd tb : Nat → Addr} {fd : Nat → FuncData}, Fx P w K mg base G f cd tb fd → FnOk P w K mg base (L2.CX P w) 2 (f 45) (fd 45) ["_law_pen_here", "_law_under"] (spM G 2 m) } :=
  ⟨drawF, fun {_ _ _ _ _ _ _ _ _ _} T => fn_draw (fn_cx (Stp.ok_draw T.F_45 T.TP T.F_44 T.g_44 T.b_44))⟩
abbrev N_12 : List Str := ["thing"]
theorem sc_12 : FnScope N_12 ["thing"] (defScope s_12) := ⟨rfl, rfl, rfl, by decide +kernel, rfl, by decide +kernel, by decide +kernel⟩
def c_12 : { m : List D → T D // ∀ {P : Program} {w : World} {K : PySem.W.Frag} {mg : Str → Option Value} {base : Heap} {G : GC} {f cd tb : Nat → Addr} {fd : Nat → FuncData}, Fx P w K mg base G f cd tb fd → FnOk P w K mg base (L2.CX P w) 1 (f 12) (fd 12) ["thing"] (spM G 1 m) } :=
  ⟨_, fun {_ _ _ _ _ _ _ _ _ _} T => fn_ok (N := N_12) T.F_12 sc_12 fun cdv A outer s H E hr => (ss_one (st_ret (s_and (s_isi T.hk T.TF T.TB rfl T.n_isinstance (a_cons (s_var 0) (a_cons (s_ty (T := "int") rfl T.n_int (by decide +kernel)) a_nil))) (s_one (s_not (s_isi T.hk T.TF T.TB rfl T.n_isinstance (a_cons (s_var 0) (a_cons (s_ty (T := "bool") rfl T.n_bool (by decide +kernel)) a_nil))))))))⟩
abbrev N_13 : List Str := ["thing", "count"]
theorem sc_13 : FnScope N_13 ["thing", "count"] (defScope s_13) := ⟨rfl, rfl, rfl, by decide +kernel, rfl, by decide +kernel, by decide +kernel⟩
def c_13 : { m : List D → T D // ∀ {P : Program} {w : World} {K : PySem.W.Frag} {mg : Str → Option Value} {base : Heap} {G : GC} {f cd tb : Nat → Addr} {fd : Nat → FuncData}, Fx P w K mg base G f cd tb fd → FnOk P w K mg base (L2.CX P w) 2 (f 13) (fd 13) ["thing", "count"] (spM G 2 m) } :=
  ⟨_, fun {_ _ _ _ _ _ _ _ _ _} T => fn_ok (N := N_13) T.F_13 sc_13 fun cdv A outer s H E hr => (ss_one (st_ret (s_and (s_call tk_def (c_12.2 T) (hr.mono (by decide)) rfl T.g_12 T.F_12.kp T.b_12 (a_cons (s_var 0) a_nil)) (s_one (s_chain op_le op_lt s_int (s_var 0) (s_var 1))))))⟩
abbrev N_14 : List Str := ["thing", "signs", "sign"]
theorem sc_14 : FnScope N_14 ["thing", "signs"] (defScope s_14) := ⟨rfl, rfl, rfl, by decide +kernel, rfl, by decide +kernel, by decide +kernel⟩
def c_14 : { m : List D → T D // ∀ {P : Program} {w : World} {K : PySem.W.Frag} {mg : Str → Option Value} {base : Heap} {G : GC} {f cd tb : Nat → Addr} {fd : Nat → FuncData}, Fx P w K mg base G f cd tb fd → FnOk P w K mg base (L2.CX P w) 3 (f 14) (fd 14) ["thing", "signs"] (spM G 2 m) } :=
  ⟨_, fun {_ _ _ _ _ _ _ _ _ _} T => fn_ok (N := N_14) T.F_14 sc_14 fun cdv A outer s H E hr => (ss_one (st_ret (s_and (s_isi T.hk T.TF T.TB rfl T.n_isinstance (a_cons (s_var 0) (a_cons (s_ty (T := "tuple") rfl T.n_tuple (by decide +kernel)) a_nil))) (s_and (s_le (s_len T.hk rfl T.n_len (s_weak (s_var 0))) (s_globI rfl T.k_MAX_WORD)) (s_one (s_all T.hk rfl rfl T.n_all (s_weak (s_comp (own := [("sign", 2)]) (pt := (.nm 2)) T.hk rfl sc_14.nd (i_seq T.hk (s_var 0)) (blkOk_by (N := N_14) (sc := defScope s_14) (by decide +kernel)) (by decide) (fun _ _ _ _ _ => (pg_name (i := 2) sc_14.nd rfl (by first | exact Or.inl rfl | exact Or.inr rfl))) (fun _ _ _ _ _ => pts_yes) (fun _ _ _ _ _ => (s_call tk_no (c_13.2 T) (hr.mono (by decide)) rfl T.g_13 T.F_13.kp T.b_13 (a_cons (s_var 2) (a_cons (s_var 1) a_nil))))))))))))⟩
abbrev N_24 : List Str := ["signs", "data"]
theorem sc_24 : FnScope N_24 ["signs", "data"] (defScope s_24) := ⟨rfl, rfl, rfl, by decide +kernel, rfl, by decide +kernel, by decide +kernel⟩
def c_24 : { m : List D → T D // ∀ {P : Program} {w : World} {K : PySem.W.Frag} {mg : Str → Option Value} {base : Heap} {G : GC} {f cd tb : Nat → Addr} {fd : Nat → FuncData}, Fx P w K mg base G f cd tb fd → FnOk P w K mg base (L2.CX P w) 2 (f 24) (fd 24) ["signs", "data"] (spM G 2 m) } :=
  ⟨_, fun {_ _ _ _ _ _ _ _ _ _} T => fn_ok (N := N_24) T.F_24 sc_24 fun cdv A outer s H E hr => (ss_one (st_ret (s_and (s_call tk_def (c_12.2 T) (hr.mono (by decide)) rfl T.g_12 T.F_12.kp T.b_12 (a_cons (s_var 0) a_nil)) (s_and (s_chain op_le op_le (s_globI rfl T.k_MIN_SIGNS) (s_var 0) (s_globI rfl T.k_MAX_SIGNS)) (s_and (s_call tk_def (c_12.2 T) (hr.mono (by decide)) rfl T.g_12 T.F_12.kp T.b_12 (a_cons (s_var 1) a_nil)) (s_one (s_chain op_le op_le s_int (s_var 1) (s_globI rfl T.k_MAX_DATA))))))))⟩
abbrev N_25 : List Str := ["thing", "data"]
theorem sc_25 : FnScope N_25 ["thing", "data"] (defScope s_25) := ⟨rfl, rfl, rfl, by decide +kernel, rfl, by decide +kernel, by decide +kernel⟩
def c_25 : { m : List D → T D // ∀ {P : Program} {w : World} {K : PySem.W.Frag} {mg : Str → Option Value} {base : Heap} {G : GC} {f cd tb : Nat → Addr} {fd : Nat → FuncData}, Fx P w K mg base G f cd tb fd → FnOk P w K mg base (L2.CX P w) 2 (f 25) (fd 25) ["thing", "data"] (spM G 2 m) } :=
  ⟨_, fun {_ _ _ _ _ _ _ _ _ _} T => fn_ok (N := N_25) T.F_25 sc_25 fun cdv A outer s H E hr => (ss_one (st_ret (s_and (s_call tk_def (c_12.2 T) (hr.mono (by decide)) rfl T.g_12 T.F_12.kp T.b_12 (a_cons (s_var 0) a_nil)) (s_one (s_chain op_le op_lt (s_globI rfl T.k_END) (s_var 0) (s_var 1))))))⟩
abbrev N_26 : List Str := ["thing", "data", "event"]
theorem sc_26 : FnScope N_26 ["thing", "data"] (defScope s_26) := ⟨rfl, rfl, rfl, by decide +kernel, rfl, by decide +kernel, by decide +kernel⟩
def c_26 : { m : List D → T D // ∀ {P : Program} {w : World} {K : PySem.W.Frag} {mg : Str → Option Value} {base : Heap} {G : GC} {f cd tb : Nat → Addr} {fd : Nat → FuncData}, Fx P w K mg base G f cd tb fd → FnOk P w K mg base (L2.CX P w) 2 (f 26) (fd 26) ["thing", "data"] (spM G 2 m) } :=
  ⟨_, fun {_ _ _ _ _ _ _ _ _ _} T => fn_ok (N := N_26) T.F_26 sc_26 fun cdv A outer s H E hr => (ss_cons (st_if (L2.PW.pt (t_or (t_not (t_val T.hk (s_isi T.hk T.TF T.TB rfl T.n_isinstance (a_cons (s_var 0) (a_cons (s_ty (T := "tuple") rfl T.n_tuple (by decide +kernel)) a_nil))))) (t_or1 (t_gt (s_len T.hk rfl T.n_len (s_weak (s_var 0))) (s_globI rfl T.k_MAX_EVENTS))))) (ss_one (st_ret s_bl)) ss_nil) (ss_one (st_ret (s_all T.hk rfl rfl T.n_all (s_weak (s_comp (own := [("event", 2)]) (pt := (.nm 2)) T.hk rfl sc_26.nd (i_seq T.hk (s_var 0)) (blkOk_by (N := N_26) (sc := defScope s_26) (by decide +kernel)) (by decide) (fun _ _ _ _ _ => (pg_name (i := 2) sc_26.nd rfl (by first | exact Or.inl rfl | exact Or.inr rfl))) (fun _ _ _ _ _ => pts_yes) (fun _ _ _ _ _ => (s_and (s_call tk_no (c_12.2 T) (hr.mono (by decide)) rfl T.g_12 T.F_12.kp T.b_12 (a_cons (s_var 2) a_nil)) (s_one (s_chain op_le op_lt (s_globI rfl T.k_DROP) (s_var 2) (s_var 1)))))))))))⟩
abbrev NL_1 : List Str := ["word", "signs"]
theorem ls_1 : NScope NL_1 ["word"] ["signs"] l_1.scope := nscope_by (by decide +kernel)
theorem hf_1 : ∀ y ∈ l_1.scope.names, y.2 = .free → (defScope s_31000).names.lookup y.1 = some .cell ∨ (defScope s_31000).names.lookup y.1 = some .free := by decide +kernel
def lc_1 : { m : List D → List D → T D // ∀ {P : Program} {w : World} {K : PySem.W.Frag} {mg : Str → Option Value} {base : Heap} {G : GC} {f cd tb : Nat → Addr} {fd : Nat → FuncData}, Fx P w K mg base G f cd tb fd → LOk P w K mg base G 4 1 1 m } :=
  ⟨_, fun {_ _ _ _ _ _ _ _ _ _} T => lok_of (ps := ["word"]) T.gf (L := l_1) rfl ls_1 (fun _ _ _ _ us hl => match us, hl with | [_], _ => rfl) fun A outer s H E f c' cl hr => (s_call tk_lam (c_14.2 T) (hr.mono (by decide)) rfl T.g_14 T.F_14.kp T.b_14 (a_cons (s_var 0) (a_cons (s_var 1) a_nil)))⟩
abbrev NL_2 : List Str := ["events", "data"]
theorem ls_2 : NScope NL_2 ["events"] ["data"] l_2.scope := nscope_by (by decide +kernel)
theorem hf_2 : ∀ y ∈ l_2.scope.names, y.2 = .free → (defScope s_32000).names.lookup y.1 = some .cell ∨ (defScope s_32000).names.lookup y.1 = some .free := by decide +kernel
def lc_2 : { m : List D → List D → T D // ∀ {P : Program} {w : World} {K : PySem.W.Frag} {mg : Str → Option Value} {base : Heap} {G : GC} {f cd tb : Nat → Addr} {fd : Nat → FuncData}, Fx P w K mg base G f cd tb fd → LOk P w K mg base G 3 2 1 m } :=
  ⟨_, fun {_ _ _ _ _ _ _ _ _ _} T => lok_of (ps := ["events"]) T.gf (L := l_2) rfl ls_2 (fun _ _ _ _ us hl => match us, hl with | [_], _ => rfl) fun A outer s H E f c' cl hr => (s_call tk_lam (c_26.2 T) (hr.mono (by decide)) rfl T.g_26 T.F_26.kp T.b_26 (a_cons (s_var 0) (a_cons (s_var 1) a_nil)))⟩
abbrev N_27 : List Str := ["thing", "fits", "states"]
theorem sc_27 : FnScope N_27 ["thing", "fits", "states"] (defScope s_27) := ⟨rfl, rfl, rfl, by decide +kernel, rfl, by decide +kernel, by decide +kernel⟩
theorem lv_27 {P : Program} {w : World} {K : PySem.W.Frag} {mg : Str → Option Value} {base : Heap} {G : GC} {f cd tb : Nat → Addr} {fd : Nat → FuncData} (T : Fx P w K mg base G f cd tb fd) : LOks P w K mg base G 4 [(1, 1, lc_1.1), (2, 1, lc_2.1)] := (loks_cons ((lc_1.2 T).mono (by decide)) (loks_cons ((lc_2.2 T).mono (by decide)) loks_nil))
def c_27 : { m : List D → T D // ∀ {P : Program} {w : World} {K : PySem.W.Frag} {mg : Str → Option Value} {base : Heap} {G : GC} {f cd tb : Nat → Addr} {fd : Nat → FuncData}, Fx P w K mg base G f cd tb fd → FnOk P w K mg base (L2.CX P w) 5 (f 27) (fd 27) ["thing", "fits", "states"] (spM G 3 m) } :=
  ⟨_, fun {_ _ _ _ _ _ _ _ _ _} T => fn_ok (N := N_27) T.F_27 sc_27 fun cdv A outer s H E hr => (ss_one (st_ret (s_and (s_isi T.hk T.TF T.TB rfl T.n_isinstance (a_cons (s_var 0) (a_cons (s_ty (T := "tuple") rfl T.n_tuple (by decide +kernel)) a_nil))) (s_and (s_eq T.hk (hU hr 64) (s_weak (s_len T.hk rfl T.n_len (s_weak (s_var 0)))) (s_weak s_int)) (s_and (s_callV T.gf tk_def (hr.mono (by decide)) (lv_27 T) (i := 1) rfl (by first | exact Or.inl rfl | exact Or.inr (Or.inl rfl) | exact Or.inr (Or.inr rfl)) (a_cons (s_ix T.hk (hU hr 1) (s_var 0) s_int) a_nil)) (s_one (s_call tk_def (c_13.2 T) (hr.mono (by decide)) rfl T.g_13 T.F_13.kp T.b_13 (a_cons (s_ix T.hk (hU hr 1) (s_var 0) s_int) (a_cons (s_var 2) a_nil)))))))))⟩
abbrev N_28 : List Str := ["thing", "fits", "moves", "states", "move"]
theorem sc_28 : FnScope N_28 ["thing", "fits", "moves", "states"] (defScope s_28) := ⟨rfl, rfl, rfl, by decide +kernel, rfl, by decide +kernel, by decide +kernel⟩
def c_28 : { m : List D → T D // ∀ {P : Program} {w : World} {K : PySem.W.Frag} {mg : Str → Option Value} {base : Heap} {G : GC} {f cd tb : Nat → Addr} {fd : Nat → FuncData}, Fx P w K mg base G f cd tb fd → FnOk P w K mg base (L2.CX P w) 6 (f 28) (fd 28) ["thing", "fits", "moves", "states"] (spM G 4 m) } :=
  ⟨_, fun {_ _ _ _ _ _ _ _ _ _} T => fn_ok (N := N_28) T.F_28 sc_28 fun cdv A outer s H E hr => (ss_one (st_ret (s_and (s_isi T.hk T.TF T.TB rfl T.n_isinstance (a_cons (s_var 0) (a_cons (s_ty (T := "list") rfl T.n_list (by decide +kernel)) a_nil))) (s_and (s_eq T.hk (hU hr 64) (s_weak (s_len T.hk rfl T.n_len (s_weak (s_var 0)))) (s_weak (s_var 2))) (s_one (s_all T.hk rfl rfl T.n_all (s_weak (s_comp (own := [("move", 4)]) (pt := (.nm 4)) T.hk rfl sc_28.nd (i_seq T.hk (s_var 0)) (blkOk_by (N := N_28) (sc := defScope s_28) (by decide +kernel)) (by decide) (fun _ _ _ _ _ => (pg_name (i := 4) sc_28.nd rfl (by first | exact Or.inl rfl | exact Or.inr rfl))) (fun _ _ _ _ _ => pts_yes) (fun _ _ _ _ _ => (s_call tk_no (c_27.2 T) (hr.mono (by decide)) rfl T.g_27 T.F_27.kp T.b_27 (a_cons (s_var 4) (a_cons (s_var 1) (a_cons (s_var 3) a_nil)))))))))))))⟩
abbrev N_29 : List Str := ["thing", "fits", "moves", "most", "row"]
theorem sc_29 : FnScope N_29 ["thing", "fits", "moves", "most"] (defScope s_29) := ⟨rfl, rfl, rfl, by decide +kernel, rfl, by decide +kernel, by decide +kernel⟩
def c_29 : { m : List D → T D // ∀ {P : Program} {w : World} {K : PySem.W.Frag} {mg : Str → Option Value} {base : Heap} {G : GC} {f cd tb : Nat → Addr} {fd : Nat → FuncData}, Fx P w K mg base G f cd tb fd → FnOk P w K mg base (L2.CX P w) 7 (f 29) (fd 29) ["thing", "fits", "moves", "most"] (spM G 4 m) } :=
  ⟨_, fun {_ _ _ _ _ _ _ _ _ _} T => fn_ok (N := N_29) T.F_29 sc_29 fun cdv A outer s H E hr => (ss_cons (st_if (L2.PW.pt (t_or (t_not (t_val T.hk (s_isi T.hk T.TF T.TB rfl T.n_isinstance (a_cons (s_var 0) (a_cons (s_ty (T := "list") rfl T.n_list (by decide +kernel)) a_nil))))) (t_or1 (t_not (t_chain op_le op_le s_int (s_len T.hk rfl T.n_len (s_weak (s_var 0))) (s_var 3)))))) (ss_one (st_ret s_bl)) ss_nil) (ss_one (st_ret (s_all T.hk rfl rfl T.n_all (s_weak (s_comp (own := [("row", 4)]) (pt := (.nm 4)) T.hk rfl sc_29.nd (i_seq T.hk (s_var 0)) (blkOk_by (N := N_29) (sc := defScope s_29) (by decide +kernel)) (by decide) (fun _ _ _ _ _ => (pg_name (i := 4) sc_29.nd rfl (by first | exact Or.inl rfl | exact Or.inr rfl))) (fun _ _ _ _ _ => pts_yes) (fun _ _ _ _ _ => (s_call tk_no (c_28.2 T) (hr.mono (by decide)) rfl T.g_28 T.F_28.kp T.b_28 (a_cons (s_var 4) (a_cons (s_var 1) (a_cons (s_var 2) (a_cons (s_len T.hk rfl T.n_len (s_weak (s_var 0))) a_nil))))))))))))⟩
abbrev N_30002 : List Str := ["self"]
theorem sc_30002 : FnScope N_30002 ["self"] (defScope s_30002) := ⟨rfl, rfl, rfl, by decide +kernel, rfl, by decide +kernel, by decide +kernel⟩
def c_30002 : { m : List D → T D // ∀ {P : Program} {w : World} {K : PySem.W.Frag} {mg : Str → Option Value} {base : Heap} {G : GC} {f cd tb : Nat → Addr} {fd : Nat → FuncData}, Fx P w K mg base G f cd tb fd → FnOk P w K mg base (L2.CX P w) 1 (f 30002) (fd 30002) ["self"] (spM G 1 m) } :=
  ⟨_, fun {_ _ _ _ _ _ _ _ _ _} T => fn_ok (N := N_30002) T.F_30002 sc_30002 fun cdv A outer s H E hr => (ss_one (st_ret (s_fld [0, 1, 2] T.hk T.fl_kinds (s_var 0))))⟩
abbrev N_33 : List Str := ["machine"]
theorem sc_33 : FnScope N_33 ["machine"] (defScope s_33) := ⟨rfl, rfl, rfl, by decide +kernel, rfl, by decide +kernel, by decide +kernel⟩
def c_33 : { m : List D → T D // ∀ {P : Program} {w : World} {K : PySem.W.Frag} {mg : Str → Option Value} {base : Heap} {G : GC} {f cd tb : Nat → Addr} {fd : Nat → FuncData}, Fx P w K mg base G f cd tb fd → FnOk P w K mg base (L2.CX P w) 3 (f 33) (fd 33) ["machine"] (spM G 1 m) } :=
  ⟨_, fun {_ _ _ _ _ _ _ _ _ _} T => fn_ok (N := N_33) T.F_33 sc_33 fun cdv A outer s H E hr => (ss_one (st_ret (s_lst (a_cons (s_globI rfl T.k_END) (a_starR1 rfl rfl T.n_range (s_prop [0, 1, 2] T.hk T.p_data (c_30002.2 T) (hr.mono (by decide)) T.b_30002 (s_var 0)) a_nil)))))⟩
abbrev N_30001 : List Str := ["self"]
theorem sc_30001 : FnScope N_30001 ["self"] (defScope s_30001) := ⟨rfl, rfl, rfl, by decide +kernel, rfl, by decide +kernel, by decide +kernel⟩
def c_30001 : { m : List D → T D // ∀ {P : Program} {w : World} {K : PySem.W.Frag} {mg : Str → Option Value} {base : Heap} {G : GC} {f cd tb : Nat → Addr} {fd : Nat → FuncData}, Fx P w K mg base G f cd tb fd → FnOk P w K mg base (L2.CX P w) 1 (f 30001) (fd 30001) ["self"] (spM G 1 m) } :=
  ⟨_, fun {_ _ _ _ _ _ _ _ _ _} T => fn_ok (N := N_30001) T.F_30001 sc_30001 fun cdv A outer s H E hr => (ss_one (st_ret (s_fld [0, 1, 2] T.hk T.fl_letters (s_var 0))))⟩
abbrev N_35 : List Str := ["machine", "other"]
theorem sc_35 : FnScope N_35 ["machine", "other"] (defScope s_35) := ⟨rfl, rfl, rfl, by decide +kernel, rfl, by decide +kernel, by decide +kernel⟩
def c_35 : { m : List D → T D // ∀ {P : Program} {w : World} {K : PySem.W.Frag} {mg : Str → Option Value} {base : Heap} {G : GC} {f cd tb : Nat → Addr} {fd : Nat → FuncData}, Fx P w K mg base G f cd tb fd → FnOk P w K mg base (L2.CX P w) 3 (f 35) (fd 35) ["machine", "other"] (spM G 2 m) } :=
  ⟨_, fun {_ _ _ _ _ _ _ _ _ _} T => fn_ok (N := N_35) T.F_35 sc_35 fun cdv A outer s H E hr => (ss_cons (st_if (t_ne T.hk (hU hr 64) (s_weak (s_isi T.hk T.TF T.TB rfl T.n_isinstance (a_cons (s_var 0) (a_cons (s_globC rfl T.g_31 T.a_31) a_nil)))) (s_weak (s_isi T.hk T.TF T.TB rfl T.n_isinstance (a_cons (s_var 1) (a_cons (s_globC rfl T.g_31 T.a_31) a_nil))))) (ss_one (st_raise T.hk rfl tk_def PySem.F.excBase_ValueError T.r_8 T.a_8 rfl T.g_8)) ss_nil) (ss_one (st_if (t_ne T.hk (hU hr 64) (s_weak (s_tup (a_cons (s_prop [0, 1, 2] T.hk T.p_signs (c_30001.2 T) (hr.mono (by decide)) T.b_30001 (s_var 0)) (a_cons (s_prop [0, 1, 2] T.hk T.p_data (c_30002.2 T) (hr.mono (by decide)) T.b_30002 (s_var 0)) a_nil)))) (s_weak (s_tup (a_cons (s_prop [0, 1, 2] T.hk T.p_signs (c_30001.2 T) (hr.mono (by decide)) T.b_30001 (s_var 1)) (a_cons (s_prop [0, 1, 2] T.hk T.p_data (c_30002.2 T) (hr.mono (by decide)) T.b_30002 (s_var 1)) a_nil))))) (ss_one (st_raise T.hk rfl tk_def PySem.F.excBase_ValueError T.r_8 T.a_8 rfl T.g_8)) ss_nil)))⟩
abbrev N_36 : List Str := ["machine"]
theorem sc_36 : FnScope N_36 ["machine"] (defScope s_36) := ⟨rfl, rfl, rfl, by decide +kernel, rfl, by decide +kernel, by decide +kernel⟩
def c_36 : { m : List D → T D // ∀ {P : Program} {w : World} {K : PySem.W.Frag} {mg : Str → Option Value} {base : Heap} {G : GC} {f cd tb : Nat → Addr} {fd : Nat → FuncData}, Fx P w K mg base G f cd tb fd → FnOk P w K mg base (L2.CX P w) 4 (f 36) (fd 36) ["machine"] (spM G 1 m) } :=
  ⟨_, fun {_ _ _ _ _ _ _ _ _ _} T => fn_ok (N := N_36) T.F_36 sc_36 fun cdv A outer s H E hr => (ss_one (st_ret (s_ifExp (t_val T.hk (s_isi T.hk T.TF T.TB rfl T.n_isinstance (a_cons (s_var 0) (a_cons (s_globC rfl T.g_31 T.a_31) a_nil)))) (s_call tk_def (c_33.2 T) (hr.mono (by decide)) rfl T.g_33 T.F_33.kp T.b_33 (a_cons (s_var 0) a_nil)) (s_listR rfl rfl T.n_list rfl T.n_range (s_prop [0, 1, 2] T.hk T.p_signs (c_30001.2 T) (hr.mono (by decide)) T.b_30001 (s_var 0))))))⟩
abbrev N_30005 : List Str := ["self", "state"]
theorem sc_30005 : FnScope N_30005 ["self", "state"] (defScope s_30005) := ⟨rfl, rfl, rfl, by decide +kernel, rfl, by decide +kernel, by decide +kernel⟩
def c_30005 : { m : List D → T D // ∀ {P : Program} {w : World} {K : PySem.W.Frag} {mg : Str → Option Value} {base : Heap} {G : GC} {f cd tb : Nat → Addr} {fd : Nat → FuncData}, Fx P w K mg base G f cd tb fd → FnOk P w K mg base (L2.CX P w) 3 (f 30005) (fd 30005) ["self", "state"] (spM G 2 m) } :=
  ⟨_, fun {_ _ _ _ _ _ _ _ _ _} T => fn_ok (N := N_30005) T.F_30005 sc_30005 fun cdv A outer s H E hr => (ss_one (st_if (t_not (t_val T.hk (s_call tk_def (c_13.2 T) (hr.mono (by decide)) rfl T.g_13 T.F_13.kp T.b_13 (a_cons (s_var 1) (a_cons (s_len T.hk rfl T.n_len (s_weak (s_fld [0, 1, 2] T.hk T.fl_table (s_var 0)))) a_nil))))) (ss_one (st_raise T.hk rfl tk_def PySem.F.excBase_ValueError T.r_5 T.a_5 rfl T.g_5)) ss_nil))⟩
abbrev N_31001 : List Str := ["self", "state", "thing"]
theorem sc_31001 : FnScope N_31001 ["self", "state", "thing"] (defScope s_31001) := ⟨rfl, rfl, rfl, by decide +kernel, rfl, by decide +kernel, by decide +kernel⟩
def c_31001 : { m : List D → T D // ∀ {P : Program} {w : World} {K : PySem.W.Frag} {mg : Str → Option Value} {base : Heap} {G : GC} {f cd tb : Nat → Addr} {fd : Nat → FuncData}, Fx P w K mg base G f cd tb fd → FnOk P w K mg base (L2.CX P w) 4 (f 31001) (fd 31001) ["self", "state", "thing"] (spM G 3 m) } :=
  ⟨_, fun {_ _ _ _ _ _ _ _ _ _} T => fn_ok (N := N_31001) T.F_31001 sc_31001 fun cdv A outer s H E hr => (ss_cons (st_expr (s_meth tk_def T.a_31 T.m_31_check_state.1 T.m_31_check_state.2 (c_30005.2 T) (hr.mono (by decide)) T.b_30005 (s_var 0) (a_cons (s_var 1) a_nil))) (ss_cons (st_if (t_not (t_val T.hk (s_call tk_def (c_25.2 T) (hr.mono (by decide)) rfl T.g_25 T.F_25.kp T.b_25 (a_cons (s_var 2) (a_cons (s_fld [0, 1, 2] T.hk T.fl_kinds (s_var 0)) a_nil))))) (ss_one (st_raise T.hk rfl tk_def PySem.F.excBase_ValueError T.r_6 T.a_6 rfl T.g_6)) ss_nil) (ss_one (st_ret (s_ifExp (t_eq T.hk (hU hr 64) (s_weak (s_var 2)) (s_weak (s_globI rfl T.k_END))) (s_fld [0, 1, 2] T.hk T.fl_kinds (s_var 0)) (s_var 2))))))⟩
abbrev N_31002 : List Str := ["self", "state", "thing", "place"]
theorem sc_31002 : FnScope N_31002 ["self", "state", "thing"] (defScope s_31002) := ⟨rfl, rfl, rfl, by decide +kernel, rfl, by decide +kernel, by decide +kernel⟩
def c_31002 : { m : List D → T D // ∀ {P : Program} {w : World} {K : PySem.W.Frag} {mg : Str → Option Value} {base : Heap} {G : GC} {f cd tb : Nat → Addr} {fd : Nat → FuncData}, Fx P w K mg base G f cd tb fd → FnOk P w K mg base (L2.CX P w) 5 (f 31002) (fd 31002) ["self", "state", "thing"] (spM G 3 m) } :=
  ⟨_, fun {_ _ _ _ _ _ _ _ _ _} T => fn_ok (N := N_31002) T.F_31002 sc_31002 fun cdv A outer s H E hr => (ss_cons (st_asg (pg_name (i := 3) sc_31002.nd rfl (by first | exact Or.inl rfl | exact Or.inr rfl)) (s_meth tk_def T.a_31 T.m_31_place.1 T.m_31_place.2 (c_31001.2 T) (hr.mono (by decide)) T.b_31001 (s_var 0) (a_cons (s_var 1) (a_cons (s_var 2) a_nil)))) (ss_one (st_ret (s_ix T.hk (hU hr 1) (s_ix T.hk (hU hr 1) (s_fld [0, 1, 2] T.hk T.fl_table (s_var 0)) (s_var 1)) (s_var 3)))))⟩
abbrev N_32001 : List Str := ["self", "state", "thing"]
theorem sc_32001 : FnScope N_32001 ["self", "state", "thing"] (defScope s_32001) := ⟨rfl, rfl, rfl, by decide +kernel, rfl, by decide +kernel, by decide +kernel⟩
def c_32001 : { m : List D → T D // ∀ {P : Program} {w : World} {K : PySem.W.Frag} {mg : Str → Option Value} {base : Heap} {G : GC} {f cd tb : Nat → Addr} {fd : Nat → FuncData}, Fx P w K mg base G f cd tb fd → FnOk P w K mg base (L2.CX P w) 4 (f 32001) (fd 32001) ["self", "state", "thing"] (spM G 3 m) } :=
  ⟨_, fun {_ _ _ _ _ _ _ _ _ _} T => fn_ok (N := N_32001) T.F_32001 sc_32001 fun cdv A outer s H E hr => (ss_cons (st_expr (s_meth tk_def T.a_32 T.m_32_check_state.1 T.m_32_check_state.2 (c_30005.2 T) (hr.mono (by decide)) T.b_30005 (s_var 0) (a_cons (s_var 1) a_nil))) (ss_cons (st_if (t_not (t_val T.hk (s_call tk_def (c_13.2 T) (hr.mono (by decide)) rfl T.g_13 T.F_13.kp T.b_13 (a_cons (s_var 2) (a_cons (s_fld [0, 1, 2] T.hk T.fl_letters (s_var 0)) a_nil))))) (ss_one (st_raise T.hk rfl tk_def PySem.F.excBase_ValueError T.r_7 T.a_7 rfl T.g_7)) ss_nil) (ss_one (st_ret (s_var 2)))))⟩
abbrev N_32002 : List Str := ["self", "state", "thing", "place"]
theorem sc_32002 : FnScope N_32002 ["self", "state", "thing"] (defScope s_32002) := ⟨rfl, rfl, rfl, by decide +kernel, rfl, by decide +kernel, by decide +kernel⟩
def c_32002 : { m : List D → T D // ∀ {P : Program} {w : World} {K : PySem.W.Frag} {mg : Str → Option Value} {base : Heap} {G : GC} {f cd tb : Nat → Addr} {fd : Nat → FuncData}, Fx P w K mg base G f cd tb fd → FnOk P w K mg base (L2.CX P w) 5 (f 32002) (fd 32002) ["self", "state", "thing"] (spM G 3 m) } :=
  ⟨_, fun {_ _ _ _ _ _ _ _ _ _} T => fn_ok (N := N_32002) T.F_32002 sc_32002 fun cdv A outer s H E hr => (ss_cons (st_asg (pg_name (i := 3) sc_32002.nd rfl (by first | exact Or.inl rfl | exact Or.inr rfl)) (s_meth tk_def T.a_32 T.m_32_place.1 T.m_32_place.2 (c_32001.2 T) (hr.mono (by decide)) T.b_32001 (s_var 0) (a_cons (s_var 1) (a_cons (s_var 2) a_nil)))) (ss_one (st_ret (s_ix T.hk (hU hr 1) (s_ix T.hk (hU hr 1) (s_fld [0, 1, 2] T.hk T.fl_table (s_var 0)) (s_var 1)) (s_var 3)))))⟩
abbrev N_37 : List Str := ["machine", "other", "lists", "waiting", "pair", "thing", "later", "one", "two"]
theorem sc_37 : FnScope N_37 ["machine", "other"] (defScope s_37) := ⟨rfl, rfl, rfl, by decide +kernel, rfl, by decide +kernel, by decide +kernel⟩
def c_37 : { m : List D → T D // ∀ {P : Program} {w : World} {K : PySem.W.Frag} {mg : Str → Option Value} {base : Heap} {G : GC} {f cd tb : Nat → Addr} {fd : Nat → FuncData}, Fx P w K mg base G f cd tb fd → FnOk P w K mg base (L2.CX P w) 6 (f 37) (fd 37) ["machine", "other"] (spM G 2 m) } :=
  ⟨_, fun {_ _ _ _ _ _ _ _ _ _} T => fn_ok (N := N_37) T.F_37 sc_37 fun cdv A outer s H E hr => (ss_cons (st_asgO (pg_name (i := 2) sc_37.nd rfl (by first | exact Or.inl rfl | exact Or.inr rfl)) (n_disp1T (hU hr 1) (s_tup (a_cons s_int (a_cons s_int a_nil))) (s_lst a_nil))) (ss_cons (st_asgO (pg_name (i := 3) sc_37.nd rfl (by first | exact Or.inl rfl | exact Or.inr rfl)) (n_lst (a_cons (s_tup (a_cons s_int (a_cons s_int a_nil))) a_nil))) (ss_cons (st_while 1000000 po_def (t_ne T.hk (hU hr 64) (s_look 3) (s_weak (s_lst a_nil))) (ss_cons (st_pop (pt := (.nm 4)) T.hk (pv 3) s_int (pg_name (i := 4) sc_37.nd rfl (by first | exact Or.inl rfl | exact Or.inr rfl))) (ss_one (st_for (pt := (.nm 5)) T.hk po_def rfl (i_seq T.hk (s_call tk_def (c_36.2 T) (hr.mono (by decide)) rfl T.g_36 T.F_36.kp T.b_36 (a_cons (s_var 0) a_nil))) (pg_name (i := 5) sc_37.nd rfl (by first | exact Or.inl rfl | exact Or.inr rfl)) (ss_cons (st_parO (i := 7) (j := 8) rfl sc_37.nd rfl rfl (by decide) rfl rfl (n_q (s_case (isC 1 0) (s_meth tk_def T.a_31 T.m_31_step.1 T.m_31_step.2 (c_31002.2 T) (hr.mono (by decide)) T.b_31002 (s_var 0) (a_cons (s_ix T.hk (hU hr 1) (s_var 4) s_int) (a_cons (s_var 5) a_nil))) (s_meth tk_def T.a_32 T.m_32_step.1 T.m_32_step.2 (c_32002.2 T) (hr.mono (by decide)) T.b_32002 (s_var 0) (a_cons (s_ix T.hk (hU hr 1) (s_var 4) s_int) (a_cons (s_var 5) a_nil))))) (n_q (s_case (isC 1 1) (s_meth tk_def T.a_31 T.m_31_step.1 T.m_31_step.2 (c_31002.2 T) (hr.mono (by decide)) T.b_31002 (s_var 1) (a_cons (s_ix T.hk (hU hr 1) (s_var 4) s_int) (a_cons (s_var 5) a_nil))) (s_meth tk_def T.a_32 T.m_32_step.1 T.m_32_step.2 (c_32002.2 T) (hr.mono (by decide)) T.b_32002 (s_var 1) (a_cons (s_ix T.hk (hU hr 1) (s_var 4) s_int) (a_cons (s_var 5) a_nil))))) rfl) (ss_cons (st_if (t_ne T.hk (hU hr 64) (s_weak (s_ix T.hk (hU hr 1) (s_var 7) s_int)) (s_weak (s_ix T.hk (hU hr 1) (s_var 8) s_int))) (ss_one (st_ret (s_tup (a_cons (s_listT rfl rfl T.n_list (s_look 2)) (a_cons (s_lst (a_star T.hk (s_ixO T.hk (hU hr 1) (pv 2) (s_var 4)) (a_cons (s_var 5) a_nil))) a_nil))))) ss_nil) (ss_cons (st_asg (pg_name (i := 6) sc_37.nd rfl (by first | exact Or.inl rfl | exact Or.inr rfl)) (s_tup (a_cons (s_ix T.hk (hU hr 1) (s_var 7) s_int) (a_cons (s_ix T.hk (hU hr 1) (s_var 8) s_int) a_nil)))) (ss_one (st_if (t_notIn T.hk (hU hr 65) (s_weak (s_var 6)) (s_look 2)) (ss_cons (st_dputT (hU hr 1) (pv 2) (s_var 6) (s_lst (a_star T.hk (s_ixO T.hk (hU hr 1) (pv 2) (s_var 4)) (a_cons (s_var 5) a_nil)))) (ss_one (st_append T.hk (pv 3) (s_var 6)))) ss_nil))))))))) (ss_one (st_ret (s_tup (a_cons (s_listT rfl rfl T.n_list (s_look 2)) (a_cons s_non a_nil))))))))⟩
abbrev N_38 : List Str := ["machine", "other"]
theorem sc_38 : FnScope N_38 ["machine", "other"] (defScope s_38) := ⟨rfl, rfl, rfl, by decide +kernel, rfl, by decide +kernel, by decide +kernel⟩
def c_38 : { m : List D → T D // ∀ {P : Program} {w : World} {K : PySem.W.Frag} {mg : Str → Option Value} {base : Heap} {G : GC} {f cd tb : Nat → Addr} {fd : Nat → FuncData}, Fx P w K mg base G f cd tb fd → FnOk P w K mg base (L2.CX P w) 7 (f 38) (fd 38) ["machine", "other"] (spM G 2 m) } :=
  ⟨_, fun {_ _ _ _ _ _ _ _ _ _} T => fn_ok (N := N_38) T.F_38 sc_38 fun cdv A outer s H E hr => (ss_cons (st_expr (s_call tk_def (c_35.2 T) (hr.mono (by decide)) rfl T.g_35 T.F_35.kp T.b_35 (a_cons (s_var 0) (a_cons (s_var 1) a_nil)))) (ss_one (st_ret (s_ix T.hk (hU hr 1) (s_call tk_def (c_37.2 T) (hr.mono (by decide)) rfl T.g_37 T.F_37.kp T.b_37 (a_cons (s_var 0) (a_cons (s_var 1) a_nil))) s_int))))⟩
abbrev N_39 : List Str := ["machine", "other", "pairs", "found"]
theorem sc_39 : FnScope N_39 ["machine", "other"] (defScope s_39) := ⟨rfl, rfl, rfl, by decide +kernel, rfl, by decide +kernel, by decide +kernel⟩
def c_39 : { m : List D → T D // ∀ {P : Program} {w : World} {K : PySem.W.Frag} {mg : Str → Option Value} {base : Heap} {G : GC} {f cd tb : Nat → Addr} {fd : Nat → FuncData}, Fx P w K mg base G f cd tb fd → FnOk P w K mg base (L2.CX P w) 7 (f 39) (fd 39) ["machine", "other"] (spM G 2 m) } :=
  ⟨_, fun {_ _ _ _ _ _ _ _ _ _} T => fn_ok (N := N_39) T.F_39 sc_39 fun cdv A outer s H E hr => (ss_cons (st_expr (s_call tk_def (c_35.2 T) (hr.mono (by decide)) rfl T.g_35 T.F_35.kp T.b_35 (a_cons (s_var 0) (a_cons (s_var 1) a_nil)))) (ss_cons (st_tgt (pt := (.tp [2, 3])) T.hk (s_call tk_def (c_37.2 T) (hr.mono (by decide)) rfl T.g_37 T.F_37.kp T.b_37 (a_cons (s_var 0) (a_cons (s_var 1) a_nil))) (pg_tp rfl (gn_cons (pg_name (i := 2) sc_39.nd rfl (by first | exact Or.inl rfl | exact Or.inr rfl)) (gn_cons (pg_name (i := 3) sc_39.nd rfl (by first | exact Or.inl rfl | exact Or.inr rfl)) gn_nil)))) (ss_one (st_ret (s_ifExp (t_isN (s_weak (s_var 3)) (s_weak s_non)) (s_sortedP T.hk rfl T.n_sorted (s_var 2)) s_non)))))⟩
abbrev N_40 : List Str := ["machine", "other", "thing"]
theorem sc_40 : FnScope N_40 ["machine", "other", "thing"] (defScope s_40) := ⟨rfl, rfl, rfl, by decide +kernel, rfl, by decide +kernel, by decide +kernel⟩
def c_40 : { m : List D → T D // ∀ {P : Program} {w : World} {K : PySem.W.Frag} {mg : Str → Option Value} {base : Heap} {G : GC} {f cd tb : Nat → Addr} {fd : Nat → FuncData}, Fx P w K mg base G f cd tb fd → FnOk P w K mg base (L2.CX P w) 3 (f 40) (fd 40) ["machine", "other", "thing"] (spM G 3 m) } :=
  ⟨_, fun {_ _ _ _ _ _ _ _ _ _} T => fn_ok (N := N_40) T.F_40 sc_40 fun cdv A outer s H E hr => (ss_cons (st_if (L2.PW.pt (t_or (t_not (t_val T.hk (s_isi T.hk T.TF T.TB rfl T.n_isinstance (a_cons (s_var 2) (a_cons (s_ty (T := "tuple") rfl T.n_tuple (by decide +kernel)) a_nil))))) (t_or1 (t_ne T.hk (hU hr 64) (s_weak (s_len T.hk rfl T.n_len (s_weak (s_var 2)))) (s_weak s_int))))) (ss_one (st_ret s_bl)) ss_nil) (ss_one (st_ret (s_and (s_call tk_def (c_13.2 T) (hr.mono (by decide)) rfl T.g_13 T.F_13.kp T.b_13 (a_cons (s_ix T.hk (hU hr 1) (s_var 2) s_int) (a_cons (s_len T.hk rfl T.n_len (s_weak (s_var 0))) a_nil))) (s_one (s_call tk_def (c_13.2 T) (hr.mono (by decide)) rfl T.g_13 T.F_13.kp T.b_13 (a_cons (s_ix T.hk (hU hr 1) (s_var 2) s_int) (a_cons (s_len T.hk rfl T.n_len (s_weak (s_var 1))) a_nil))))))))⟩
abbrev N_41 : List Str := ["machine", "other", "thing", "pair", "one", "first", "second"]
theorem sc_41 : FnScope N_41 ["machine", "other", "thing"] (defScope s_41) := ⟨rfl, rfl, rfl, by decide +kernel, rfl, by decide +kernel, by decide +kernel⟩
def c_41 : { m : List D → T D // ∀ {P : Program} {w : World} {K : PySem.W.Frag} {mg : Str → Option Value} {base : Heap} {G : GC} {f cd tb : Nat → Addr} {fd : Nat → FuncData}, Fx P w K mg base G f cd tb fd → FnOk P w K mg base (L2.CX P w) 6 (f 41) (fd 41) ["machine", "other", "thing"] (spM G 3 m) } :=
  ⟨_, fun {_ _ _ _ _ _ _ _ _ _} T => fn_ok (N := N_41) T.F_41 sc_41 fun cdv A outer s H E hr => (ss_cons (st_expr (s_call tk_def (c_35.2 T) (hr.mono (by decide)) rfl T.g_35 T.F_35.kp T.b_35 (a_cons (s_var 0) (a_cons (s_var 1) a_nil)))) (ss_cons (st_if (L2.PW.pt (t_or (t_not (t_val T.hk (s_isi T.hk T.TF T.TB rfl T.n_isinstance (a_cons (s_var 2) (a_cons (s_ty (T := "list") rfl T.n_list (by decide +kernel)) a_nil))))) (t_or1 (t_not (t_val T.hk (s_all T.hk rfl rfl T.n_all (s_weak (s_comp (own := [("pair", 3)]) (pt := (.nm 3)) T.hk rfl sc_41.nd (i_seq T.hk (s_var 2)) (blkOk_by (N := N_41) (sc := defScope s_41) (by decide +kernel)) (by decide) (fun _ _ _ _ _ => (pg_name (i := 3) sc_41.nd rfl (by first | exact Or.inl rfl | exact Or.inr rfl))) (fun _ _ _ _ _ => pts_yes) (fun _ _ _ _ _ => (s_call tk_no (c_40.2 T) (hr.mono (by decide)) rfl T.g_40 T.F_40.kp T.b_40 (a_cons (s_var 0) (a_cons (s_var 1) (a_cons (s_var 3) a_nil))))))))))))) (ss_one (st_ret s_bl)) ss_nil) (ss_cons st_fail (ss_cons (st_for (pt := (.nm 3)) T.hk po_def rfl (i_seq T.hk (s_var 2)) (pg_name (i := 3) sc_41.nd rfl (by first | exact Or.inl rfl | exact Or.inr rfl)) (ss_one (st_for (pt := (.nm 4)) T.hk po_def rfl (i_seq T.hk (s_call tk_def (c_36.2 T) (hr.mono (by decide)) rfl T.g_36 T.F_36.kp T.b_36 (a_cons (s_var 0) a_nil))) (pg_name (i := 4) sc_41.nd rfl (by first | exact Or.inl rfl | exact Or.inr rfl)) (ss_cons (st_parO (i := 5) (j := 6) rfl sc_41.nd rfl rfl (by decide) rfl rfl (n_q (s_case (isC 1 0) (s_meth tk_def T.a_31 T.m_31_step.1 T.m_31_step.2 (c_31002.2 T) (hr.mono (by decide)) T.b_31002 (s_var 0) (a_cons (s_ix T.hk (hU hr 1) (s_var 3) s_int) (a_cons (s_var 4) a_nil))) (s_meth tk_def T.a_32 T.m_32_step.1 T.m_32_step.2 (c_32002.2 T) (hr.mono (by decide)) T.b_32002 (s_var 0) (a_cons (s_ix T.hk (hU hr 1) (s_var 3) s_int) (a_cons (s_var 4) a_nil))))) (n_q (s_case (isC 1 1) (s_meth tk_def T.a_31 T.m_31_step.1 T.m_31_step.2 (c_31002.2 T) (hr.mono (by decide)) T.b_31002 (s_var 1) (a_cons (s_ix T.hk (hU hr 1) (s_var 3) s_int) (a_cons (s_var 4) a_nil))) (s_meth tk_def T.a_32 T.m_32_step.1 T.m_32_step.2 (c_32002.2 T) (hr.mono (by decide)) T.b_32002 (s_var 1) (a_cons (s_ix T.hk (hU hr 1) (s_var 3) s_int) (a_cons (s_var 4) a_nil))))) rfl) (ss_one (st_if (L2.PW.pt (t_or (t_ne T.hk (hU hr 64) (s_weak (s_ix T.hk (hU hr 1) (s_var 5) s_int)) (s_weak (s_ix T.hk (hU hr 1) (s_var 6) s_int))) (t_or1 (t_notIn T.hk (hU hr 65) (s_weak (s_tup (a_cons (s_ix T.hk (hU hr 1) (s_var 5) s_int) (a_cons (s_ix T.hk (hU hr 1) (s_var 6) s_int) a_nil)))) (s_weak (s_var 2)))))) (ss_one (st_ret s_bl)) ss_nil)))))) (ss_one (st_ret s_bl))))))⟩
abbrev N_46 : List Str := ["_law_pen_here", "_law_many", "_law_most", "_law_turn"]
theorem sc_46 : FnScope N_46 ["_law_pen_here", "_law_many", "_law_most"] (defScope s_46) := ⟨rfl, rfl, rfl, by decide +kernel, rfl, by decide +kernel, by decide +kernel⟩
def c_46 : { m : List D → T D // ∀ {P : Program} {w : World} {K : PySem.W.Frag} {mg : Str → Option Value} {base : Heap} {G : GC} {f cd tb : Nat → Addr} {fd : Nat → FuncData}, Fx P w K mg base G f cd tb fd → FnOk P w K mg base (L2.CX P w) 3 (f 46) (fd 46) ["_law_pen_here", "_law_many", "_law_most"] (spM G 3 m) } :=
  ⟨_, fun {_ _ _ _ _ _ _ _ _ _} T => fn_ok (N := N_46) T.F_46 sc_46 fun cdv A outer s H E hr => (ss_one (st_ret (s_tuple T.hk rfl T.n_tuple (s_comp (own := [("_law_turn", 3)]) (pt := (.nm 3)) T.hk rfl sc_46.nd (i_range1 rfl T.n_range (s_call tk_def (c_45.2 T) (hr.mono (by decide)) rfl T.g_45 T.F_45.kp T.b_45 (a_cons (s_var 0) (a_cons (s_add T.hk (s_var 2) s_int) a_nil)))) (blkOk_by (N := N_46) (sc := defScope s_46) (by decide +kernel)) (by decide) (fun _ _ _ _ _ => (pg_name (i := 3) sc_46.nd rfl (by first | exact Or.inl rfl | exact Or.inr rfl))) (fun _ _ _ _ _ => pts_yes) (fun _ _ _ _ _ => (s_call tk_no (c_45.2 T) (hr.mono (by decide)) rfl T.g_45 T.F_45.kp T.b_45 (a_cons (s_var 0) (a_cons (s_var 1) a_nil))))))))⟩
abbrev N_47 : List Str := ["_law_pen_here", "_law_kinds", "_law_most", "_law_turn"]
theorem sc_47 : FnScope N_47 ["_law_pen_here", "_law_kinds", "_law_most"] (defScope s_47) := ⟨rfl, rfl, rfl, by decide +kernel, rfl, by decide +kernel, by decide +kernel⟩
def c_47 : { m : List D → T D // ∀ {P : Program} {w : World} {K : PySem.W.Frag} {mg : Str → Option Value} {base : Heap} {G : GC} {f cd tb : Nat → Addr} {fd : Nat → FuncData}, Fx P w K mg base G f cd tb fd → FnOk P w K mg base (L2.CX P w) 3 (f 47) (fd 47) ["_law_pen_here", "_law_kinds", "_law_most"] (spM G 3 m) } :=
  ⟨_, fun {_ _ _ _ _ _ _ _ _ _} T => fn_ok (N := N_47) T.F_47 sc_47 fun cdv A outer s H E hr => (ss_one (st_ret (s_tuple T.hk rfl T.n_tuple (s_comp (own := [("_law_turn", 3)]) (pt := (.nm 3)) T.hk rfl sc_47.nd (i_range1 rfl T.n_range (s_call tk_def (c_45.2 T) (hr.mono (by decide)) rfl T.g_45 T.F_45.kp T.b_45 (a_cons (s_var 0) (a_cons (s_add T.hk (s_var 2) s_int) a_nil)))) (blkOk_by (N := N_47) (sc := defScope s_47) (by decide +kernel)) (by decide) (fun _ _ _ _ _ => (pg_name (i := 3) sc_47.nd rfl (by first | exact Or.inl rfl | exact Or.inr rfl))) (fun _ _ _ _ _ => pts_yes) (fun _ _ _ _ _ => (s_sub (s_call tk_no (c_45.2 T) (hr.mono (by decide)) rfl T.g_45 T.F_45.kp T.b_45 (a_cons (s_var 0) (a_cons (s_add T.hk (s_var 1) s_int) a_nil))) s_int))))))⟩
abbrev N_48 : List Str := ["_law_pen_here", "_law_many", "_law_kinds", "_law_most", "_law_longest_word", "_law_total_here", "_law_table", "_law_state", "_law_row", "_law_thing"]
theorem sc_48 : FnScope N_48 ["_law_pen_here", "_law_many", "_law_kinds", "_law_most", "_law_longest_word"] (defScope s_48) := ⟨rfl, rfl, rfl, by decide +kernel, rfl, by decide +kernel, by decide +kernel⟩
def c_48 : { m : List D → T D // ∀ {P : Program} {w : World} {K : PySem.W.Frag} {mg : Str → Option Value} {base : Heap} {G : GC} {f cd tb : Nat → Addr} {fd : Nat → FuncData}, Fx P w K mg base G f cd tb fd → FnOk P w K mg base (L2.CX P w) 4 (f 48) (fd 48) ["_law_pen_here", "_law_many", "_law_kinds", "_law_most", "_law_longest_word"] (spM G 5 m) } :=
  ⟨_, fun {_ _ _ _ _ _ _ _ _ _} T => fn_ok (N := N_48) T.F_48 sc_48 fun cdv A outer s H E hr => (ss_cons (st_asg (pg_name (i := 5) sc_48.nd rfl (by first | exact Or.inl rfl | exact Or.inr rfl)) (s_add T.hk s_int (s_call tk_def (c_45.2 T) (hr.mono (by decide)) rfl T.g_45 T.F_45.kp T.b_45 (a_cons (s_var 0) (a_cons (s_var 3) a_nil))))) (ss_cons (st_asgO (pg_name (i := 6) sc_48.nd rfl (by first | exact Or.inl rfl | exact Or.inr rfl)) (n_lst a_nil)) (ss_cons (st_for (pt := (.nm 7)) T.hk po_def rfl (i_range1 rfl T.n_range (s_var 5)) (pg_name (i := 7) sc_48.nd rfl (by first | exact Or.inl rfl | exact Or.inr rfl)) (ss_cons (st_asgC (i := 8) (own := [("_law_thing", 9)]) (pt := (.nm 9)) T.hk rfl sc_48.nd rfl rfl rfl (i_range1 rfl T.n_range (s_add T.hk (s_var 2) s_int)) (blkOk_by (N := N_48) (sc := defScope s_48) (by decide +kernel)) (by decide) (fun _ _ _ _ _ => (pg_name (i := 9) sc_48.nd rfl (by first | exact Or.inl rfl | exact Or.inr rfl))) (fun _ _ _ _ _ => pts_yes) (fun _ _ _ _ _ => (s_tup (a_cons (s_call tk_no (c_46.2 T) (hr.mono (by decide)) rfl T.g_46 T.F_46.kp T.b_46 (a_cons (s_var 0) (a_cons (s_var 1) (a_cons (s_var 4) a_nil)))) (a_cons (s_call tk_no (c_45.2 T) (hr.mono (by decide)) rfl T.g_45 T.F_45.kp T.b_45 (a_cons (s_var 0) (a_cons (s_var 5) a_nil))) a_nil))))) (ss_one (st_append T.hk (pv 6) (s_var 8))))) (ss_one (st_frz 6 (st_ret (s_tup (a_cons (s_var 1) (a_cons (s_var 2) (a_cons (s_var 6) a_nil))))))))))⟩
abbrev N_49 : List Str := ["_law_pen_here", "_law_many", "_law_kinds", "_law_most", "_law_most_told", "_law_total_here", "_law_table", "_law_state", "_law_row", "_law_sign"]
theorem sc_49 : FnScope N_49 ["_law_pen_here", "_law_many", "_law_kinds", "_law_most", "_law_most_told"] (defScope s_49) := ⟨rfl, rfl, rfl, by decide +kernel, rfl, by decide +kernel, by decide +kernel⟩
def c_49 : { m : List D → T D // ∀ {P : Program} {w : World} {K : PySem.W.Frag} {mg : Str → Option Value} {base : Heap} {G : GC} {f cd tb : Nat → Addr} {fd : Nat → FuncData}, Fx P w K mg base G f cd tb fd → FnOk P w K mg base (L2.CX P w) 4 (f 49) (fd 49) ["_law_pen_here", "_law_many", "_law_kinds", "_law_most", "_law_most_told"] (spM G 5 m) } :=
  ⟨_, fun {_ _ _ _ _ _ _ _ _ _} T => fn_ok (N := N_49) T.F_49 sc_49 fun cdv A outer s H E hr => (ss_cons (st_asg (pg_name (i := 5) sc_49.nd rfl (by first | exact Or.inl rfl | exact Or.inr rfl)) (s_add T.hk s_int (s_call tk_def (c_45.2 T) (hr.mono (by decide)) rfl T.g_45 T.F_45.kp T.b_45 (a_cons (s_var 0) (a_cons (s_var 3) a_nil))))) (ss_cons (st_asgO (pg_name (i := 6) sc_49.nd rfl (by first | exact Or.inl rfl | exact Or.inr rfl)) (n_lst a_nil)) (ss_cons (st_for (pt := (.nm 7)) T.hk po_def rfl (i_range1 rfl T.n_range (s_var 5)) (pg_name (i := 7) sc_49.nd rfl (by first | exact Or.inl rfl | exact Or.inr rfl)) (ss_cons (st_asgC (i := 8) (own := [("_law_sign", 9)]) (pt := (.nm 9)) T.hk rfl sc_49.nd rfl rfl rfl (i_range1 rfl T.n_range (s_var 1)) (blkOk_by (N := N_49) (sc := defScope s_49) (by decide +kernel)) (by decide) (fun _ _ _ _ _ => (pg_name (i := 9) sc_49.nd rfl (by first | exact Or.inl rfl | exact Or.inr rfl))) (fun _ _ _ _ _ => pts_yes) (fun _ _ _ _ _ => (s_tup (a_cons (s_call tk_no (c_47.2 T) (hr.mono (by decide)) rfl T.g_47 T.F_47.kp T.b_47 (a_cons (s_var 0) (a_cons (s_var 2) (a_cons (s_var 4) a_nil)))) (a_cons (s_call tk_no (c_45.2 T) (hr.mono (by decide)) rfl T.g_45 T.F_45.kp T.b_45 (a_cons (s_var 0) (a_cons (s_var 5) a_nil))) a_nil))))) (ss_one (st_append T.hk (pv 6) (s_var 8))))) (ss_one (st_frz 6 (st_ret (s_tup (a_cons (s_var 1) (a_cons (s_var 2) (a_cons (s_var 6) a_nil))))))))))⟩
abbrev N_30000 : List Str := ["self", "signs", "data", "rows", "row"]
theorem sc_30000 : FnScope N_30000 ["self", "signs", "data", "rows"] (defScope s_30000) := ⟨rfl, rfl, rfl, by decide +kernel, rfl, by decide +kernel, by decide +kernel⟩
def c_30000 : { m : Nat → List (Str × D) → List D → T (List (Str × D)) // ∀ {P : Program} {w : World} {K : PySem.W.Frag} {mg : Str → Option Value} {base : Heap} {G : GC} {f cd tb : Nat → Addr} {fd : Nat → FuncData}, Fx P w K mg base G f cd tb fd → FnOk P w K mg base (L2.CX P w) 1 (f 30000) (fd 30000) ["self", "signs", "data", "rows"] (spI G 4 m) } :=
  ⟨_, fun {_ _ _ _ _ _ _ _ _ _} T => fn_init (N := N_30000) T.F_30000 sc_30000 fun cdv A outer s H E hr => (ss_cons (st_me [0, 1, 2] T.hk T.fl_letters (pv 0) (s_var 1)) (ss_cons (st_me [0, 1, 2] T.hk T.fl_kinds (pv 0) (s_var 2)) (ss_one (st_me [0, 1, 2] T.hk T.fl_table (pv 0) (s_comp (own := [("row", 4)]) (pt := (.nm 4)) T.hk rfl sc_30000.nd (i_seq T.hk (s_var 3)) (blkOk_by (N := N_30000) (sc := defScope s_30000) (by decide +kernel)) (by decide) (fun _ _ _ _ _ => (pg_name (i := 4) sc_30000.nd rfl (by first | exact Or.inl rfl | exact Or.inr rfl))) (fun _ _ _ _ _ => pts_yes) (fun _ _ _ _ _ => (s_list T.hk rfl T.n_list (s_var 4))))))))⟩
abbrev N_31000 : List Str := ["self", "signs", "data", "rows"]
theorem sc_31000 : FnScope N_31000 ["self", "signs", "data", "rows"] (defScope s_31000) := ⟨rfl, rfl, rfl, by decide +kernel, rfl, by decide +kernel, by decide +kernel⟩
def c_31000 : { m : Nat → List (Str × D) → List D → T (List (Str × D)) // ∀ {P : Program} {w : World} {K : PySem.W.Frag} {mg : Str → Option Value} {base : Heap} {G : GC} {f cd tb : Nat → Addr} {fd : Nat → FuncData}, Fx P w K mg base G f cd tb fd → FnOk P w K mg base (L2.CX P w) 8 (f 31000) (fd 31000) ["self", "signs", "data", "rows"] (spI G 4 m) } :=
  ⟨_, fun {_ _ _ _ _ _ _ _ _ _} T => fn_initC (N := N_31000) T.F_31000 sc_31000 T.hc_31000 fun A outer s H E hr => (ss_cons (st_if (t_not (t_val T.hk (s_call tk_def (c_24.2 T) (hr.mono (by decide)) rfl T.g_24 T.F_24.kp T.b_24 (a_cons (s_var 1) (a_cons (s_var 2) a_nil))))) (ss_one (st_raise T.hk rfl tk_def PySem.F.excBase_ValueError T.r_3 T.a_3 rfl T.g_3)) ss_nil) (ss_cons (st_if (t_not (t_val T.hk (s_callL T.gf (L := l_1) (id := 1) (js := [1]) rfl (fun _ => rfl) hf_1 (by decide +kernel) rfl tk_def (c_29.2 T) (hr.mono (by decide)) rfl T.g_29 T.F_29.kp T.b_29 (al_cons (s_var 3) (al_lam (L := l_1) (id := 1) (js := [1]) T.TB_31000 rfl rfl T.tm_31000 rfl T.tu_31000 rfl hf_1 (a_cons (s_add T.hk (s_var 2) s_int) (a_cons (s_globI rfl T.k_MAX_WRITER) a_nil))))))) (ss_one (st_raise T.hk rfl tk_def PySem.F.excBase_ValueError T.r_3 T.a_3 rfl T.g_3)) ss_nil) (ss_one (st_base tk_def rfl T.g_30 T.cr_30.1 T.cr_30.2.1 T.cr_30.2.2 (c_30000.2 T) (hr.mono (by decide)) T.b_30000 (pv 0) (a_cons (s_var 1) (a_cons (s_var 2) (a_cons (s_var 3) a_nil)))))))⟩
abbrev N_50 : List Str := ["_law_machine"]
theorem sc_50 : FnScope N_50 ["_law_machine"] (defScope s_50) := ⟨rfl, rfl, rfl, by decide +kernel, rfl, by decide +kernel, by decide +kernel⟩
def c_50 : { m : List D → T D // ∀ {P : Program} {w : World} {K : PySem.W.Frag} {mg : Str → Option Value} {base : Heap} {G : GC} {f cd tb : Nat → Addr} {fd : Nat → FuncData}, Fx P w K mg base G f cd tb fd → FnOk P w K mg base (L2.CX P w) 10 (f 50) (fd 50) ["_law_machine"] (spM G 1 m) } :=
  ⟨_, fun {_ _ _ _ _ _ _ _ _ _} T => fn_ok (N := N_50) T.F_50 sc_50 fun cdv A outer s H E hr => (ss_one (st_ret (s_mak tk_def T.a_31 T.mk_31 (c_31000.2 T) (hr.mono (by decide)) rfl T.g_31 T.b_31000 (a_cons (s_ix T.hk (hU hr 1) (s_var 0) s_int) (a_cons (s_ix T.hk (hU hr 1) (s_var 0) s_int) (a_cons (s_ix T.hk (hU hr 1) (s_var 0) s_int) a_nil))))))⟩
abbrev N_32000 : List Str := ["self", "signs", "data", "rows"]
theorem sc_32000 : FnScope N_32000 ["self", "signs", "data", "rows"] (defScope s_32000) := ⟨rfl, rfl, rfl, by decide +kernel, rfl, by decide +kernel, by decide +kernel⟩
def c_32000 : { m : Nat → List (Str × D) → List D → T (List (Str × D)) // ∀ {P : Program} {w : World} {K : PySem.W.Frag} {mg : Str → Option Value} {base : Heap} {G : GC} {f cd tb : Nat → Addr} {fd : Nat → FuncData}, Fx P w K mg base G f cd tb fd → FnOk P w K mg base (L2.CX P w) 8 (f 32000) (fd 32000) ["self", "signs", "data", "rows"] (spI G 4 m) } :=
  ⟨_, fun {_ _ _ _ _ _ _ _ _ _} T => fn_initC (N := N_32000) T.F_32000 sc_32000 T.hc_32000 fun A outer s H E hr => (ss_cons (st_if (t_not (t_val T.hk (s_call tk_def (c_24.2 T) (hr.mono (by decide)) rfl T.g_24 T.F_24.kp T.b_24 (a_cons (s_var 1) (a_cons (s_var 2) a_nil))))) (ss_one (st_raise T.hk rfl tk_def PySem.F.excBase_ValueError T.r_4 T.a_4 rfl T.g_4)) ss_nil) (ss_cons (st_if (t_not (t_val T.hk (s_callL T.gf (L := l_2) (id := 2) (js := [2]) rfl (fun _ => rfl) hf_2 (by decide +kernel) rfl tk_def (c_29.2 T) (hr.mono (by decide)) rfl T.g_29 T.F_29.kp T.b_29 (al_cons (s_var 3) (al_lam (L := l_2) (id := 2) (js := [2]) T.TB_32000 rfl rfl T.tm_32000 rfl T.tu_32000 rfl hf_2 (a_cons (s_var 1) (a_cons (s_globI rfl T.k_MAX_READER) a_nil))))))) (ss_one (st_raise T.hk rfl tk_def PySem.F.excBase_ValueError T.r_4 T.a_4 rfl T.g_4)) ss_nil) (ss_one (st_base tk_def rfl T.g_30 T.cr_30.1 T.cr_30.2.1 T.cr_30.2.2 (c_30000.2 T) (hr.mono (by decide)) T.b_30000 (pv 0) (a_cons (s_var 1) (a_cons (s_var 2) (a_cons (s_var 3) a_nil)))))))⟩
abbrev N_51 : List Str := ["_law_machine"]
theorem sc_51 : FnScope N_51 ["_law_machine"] (defScope s_51) := ⟨rfl, rfl, rfl, by decide +kernel, rfl, by decide +kernel, by decide +kernel⟩
def c_51 : { m : List D → T D // ∀ {P : Program} {w : World} {K : PySem.W.Frag} {mg : Str → Option Value} {base : Heap} {G : GC} {f cd tb : Nat → Addr} {fd : Nat → FuncData}, Fx P w K mg base G f cd tb fd → FnOk P w K mg base (L2.CX P w) 10 (f 51) (fd 51) ["_law_machine"] (spM G 1 m) } :=
  ⟨_, fun {_ _ _ _ _ _ _ _ _ _} T => fn_ok (N := N_51) T.F_51 sc_51 fun cdv A outer s H E hr => (ss_one (st_ret (s_mak tk_def T.a_32 T.mk_32 (c_32000.2 T) (hr.mono (by decide)) rfl T.g_32 T.b_32000 (a_cons (s_ix T.hk (hU hr 1) (s_var 0) s_int) (a_cons (s_ix T.hk (hU hr 1) (s_var 0) s_int) (a_cons (s_ix T.hk (hU hr 1) (s_var 0) s_int) a_nil))))))⟩
abbrev N_52 : List Str := ["_law_kinds", "_law_writer_here", "_law_reader_here", "_law_thing"]
theorem sc_52 : FnScope N_52 ["_law_kinds"] (defScope s_52) := ⟨rfl, rfl, rfl, by decide +kernel, rfl, by decide +kernel, by decide +kernel⟩
def c_52 : { m : List D → T D // ∀ {P : Program} {w : World} {K : PySem.W.Frag} {mg : Str → Option Value} {base : Heap} {G : GC} {f cd tb : Nat → Addr} {fd : Nat → FuncData}, Fx P w K mg base G f cd tb fd → FnOk P w K mg base (L2.CX P w) 1 (f 52) (fd 52) ["_law_kinds"] (spM G 1 m) } :=
  ⟨_, fun {_ _ _ _ _ _ _ _ _ _} T => fn_ok (N := N_52) T.F_52 sc_52 fun cdv A outer s H E hr => (ss_cons (st_asg (pg_name (i := 1) sc_52.nd rfl (by first | exact Or.inl rfl | exact Or.inr rfl)) (s_add T.hk (s_comp (own := [("_law_thing", 3)]) (pt := (.nm 3)) T.hk rfl sc_52.nd (i_range1 rfl T.n_range (s_var 0)) (blkOk_by (N := N_52) (sc := defScope s_52) (by decide +kernel)) (by decide) (fun _ _ _ _ _ => (pg_name (i := 3) sc_52.nd rfl (by first | exact Or.inl rfl | exact Or.inr rfl))) (fun _ _ _ _ _ => pts_yes) (fun _ _ _ _ _ => (s_tup (a_cons (s_tup (a_cons (s_var 3) a_nil)) (a_cons s_int a_nil))))) (s_lst (a_cons (s_tup (a_cons (s_tup (a_cons (s_var 0) a_nil)) (a_cons s_int a_nil))) a_nil)))) (ss_cons (st_asg (pg_name (i := 2) sc_52.nd rfl (by first | exact Or.inl rfl | exact Or.inr rfl)) (s_add T.hk (s_comp (own := [("_law_thing", 3)]) (pt := (.nm 3)) T.hk rfl sc_52.nd (i_range1 rfl T.n_range (s_var 0)) (blkOk_by (N := N_52) (sc := defScope s_52) (by decide +kernel)) (by decide) (fun _ _ _ _ _ => (pg_name (i := 3) sc_52.nd rfl (by first | exact Or.inl rfl | exact Or.inr rfl))) (fun _ _ _ _ _ => pts_yes) (fun _ _ _ _ _ => (s_tup (a_cons (s_tup (a_cons (s_var 3) a_nil)) (a_cons s_int a_nil))))) (s_lst (a_cons (s_tup (a_cons (s_tup (a_cons (s_neg s_int) a_nil)) (a_cons s_int a_nil))) a_nil)))) (ss_one (st_ret (s_tup (a_cons (s_tup (a_cons (s_add T.hk (s_var 0) s_int) (a_cons (s_var 0) (a_cons (s_lst (a_cons (s_var 1) a_nil)) a_nil)))) (a_cons (s_tup (a_cons (s_add T.hk (s_var 0) s_int) (a_cons (s_var 0) (a_cons (s_lst (a_cons (s_var 2) a_nil)) a_nil)))) a_nil)))))))⟩
abbrev N_53 : List Str := ["_law_kinds", "_law_writer_here", "_law_reader_here", "_law_behind_one", "_law_thing"]
theorem sc_53 : FnScope N_53 ["_law_kinds"] (defScope s_53) := ⟨rfl, rfl, rfl, by decide +kernel, rfl, by decide +kernel, by decide +kernel⟩
def c_53 : { m : List D → T D // ∀ {P : Program} {w : World} {K : PySem.W.Frag} {mg : Str → Option Value} {base : Heap} {G : GC} {f cd tb : Nat → Addr} {fd : Nat → FuncData}, Fx P w K mg base G f cd tb fd → FnOk P w K mg base (L2.CX P w) 1 (f 53) (fd 53) ["_law_kinds"] (spM G 1 m) } :=
  ⟨_, fun {_ _ _ _ _ _ _ _ _ _} T => fn_ok (N := N_53) T.F_53 sc_53 fun cdv A outer s H E hr => (ss_cons (st_asg (pg_name (i := 1) sc_53.nd rfl (by first | exact Or.inl rfl | exact Or.inr rfl)) (s_add T.hk (s_add T.hk (s_lst (a_cons (s_tup (a_cons (s_tup (a_cons s_int (a_cons s_int a_nil))) (a_cons s_int a_nil))) (a_cons (s_tup (a_cons (s_tup (a_cons s_int (a_cons s_int a_nil))) (a_cons s_int a_nil))) a_nil))) (s_comp (own := [("_law_thing", 4)]) (pt := (.nm 4)) T.hk rfl sc_53.nd (i_range2 rfl T.n_range s_int (s_var 0)) (blkOk_by (N := N_53) (sc := defScope s_53) (by decide +kernel)) (by decide) (fun _ _ _ _ _ => (pg_name (i := 4) sc_53.nd rfl (by first | exact Or.inl rfl | exact Or.inr rfl))) (fun _ _ _ _ _ => pts_yes) (fun _ _ _ _ _ => (s_tup (a_cons (s_tup (a_cons (s_var 4) a_nil)) (a_cons s_int a_nil)))))) (s_lst (a_cons (s_tup (a_cons (s_tup (a_cons s_int a_nil)) (a_cons s_int a_nil))) a_nil)))) (ss_cons (st_asg (pg_name (i := 2) sc_53.nd rfl (by first | exact Or.inl rfl | exact Or.inr rfl)) (s_add T.hk (s_lst (a_cons (s_tup (a_cons (s_tup (a_cons (s_neg s_int) a_nil)) (a_cons s_int a_nil))) (a_cons (s_tup (a_cons (s_tup a_nil) (a_cons s_int a_nil))) a_nil))) (s_comp (own := [("_law_thing", 4)]) (pt := (.nm 4)) T.hk rfl sc_53.nd (i_range2 rfl T.n_range s_int (s_var 0)) (blkOk_by (N := N_53) (sc := defScope s_53) (by decide +kernel)) (by decide) (fun _ _ _ _ _ => (pg_name (i := 4) sc_53.nd rfl (by first | exact Or.inl rfl | exact Or.inr rfl))) (fun _ _ _ _ _ => pts_yes) (fun _ _ _ _ _ => (s_tup (a_cons (s_tup (a_cons (s_var 4) a_nil)) (a_cons s_int a_nil))))))) (ss_cons (st_asg (pg_name (i := 3) sc_53.nd rfl (by first | exact Or.inl rfl | exact Or.inr rfl)) (s_add T.hk (s_lst (a_cons (s_tup (a_cons (s_tup (a_cons s_int a_nil)) (a_cons s_int a_nil))) (a_cons (s_tup (a_cons (s_tup (a_cons s_int a_nil)) (a_cons s_int a_nil))) a_nil))) (s_comp (own := [("_law_thing", 4)]) (pt := (.nm 4)) T.hk rfl sc_53.nd (i_range2 rfl T.n_range s_int (s_var 0)) (blkOk_by (N := N_53) (sc := defScope s_53) (by decide +kernel)) (by decide) (fun _ _ _ _ _ => (pg_name (i := 4) sc_53.nd rfl (by first | exact Or.inl rfl | exact Or.inr rfl))) (fun _ _ _ _ _ => pts_yes) (fun _ _ _ _ _ => (s_tup (a_cons (s_tup (a_cons (s_neg s_int) a_nil)) (a_cons s_int a_nil))))))) (ss_one (st_ret (s_tup (a_cons (s_tup (a_cons (s_var 0) (a_cons (s_var 0) (a_cons (s_lst (a_cons (s_var 1) a_nil)) a_nil)))) (a_cons (s_tup (a_cons (s_var 0) (a_cons (s_var 0) (a_cons (s_lst (a_cons (s_var 2) (a_cons (s_var 3) a_nil))) a_nil)))) a_nil))))))))⟩
abbrev N_54 : List Str := ["_law_kinds", "_law_writer_here", "_law_table", "_law_kept", "_law_order", "_law_found", "_law_ahead", "_law_thing", "_law_events_here", "_law_later"]
theorem sc_54 : FnScope N_54 ["_law_kinds"] (defScope s_54) := ⟨rfl, rfl, rfl, by decide +kernel, rfl, by decide +kernel, by decide +kernel⟩
def c_54 : { m : List D → T D // ∀ {P : Program} {w : World} {K : PySem.W.Frag} {mg : Str → Option Value} {base : Heap} {G : GC} {f cd tb : Nat → Addr} {fd : Nat → FuncData}, Fx P w K mg base G f cd tb fd → FnOk P w K mg base (L2.CX P w) 1 (f 54) (fd 54) ["_law_kinds"] (spM G 1 m) } :=
  ⟨_, fun {_ _ _ _ _ _ _ _ _ _} T => fn_ok (N := N_54) T.F_54 sc_54 fun cdv A outer s H E hr => (ss_cons (st_asg (pg_name (i := 1) sc_54.nd rfl (by first | exact Or.inl rfl | exact Or.inr rfl)) (s_add T.hk (s_comp (own := [("_law_thing", 7)]) (pt := (.nm 7)) T.hk rfl sc_54.nd (i_range1 rfl T.n_range (s_var 0)) (blkOk_by (N := N_54) (sc := defScope s_54) (by decide +kernel)) (by decide) (fun _ _ _ _ _ => (pg_name (i := 7) sc_54.nd rfl (by first | exact Or.inl rfl | exact Or.inr rfl))) (fun _ _ _ _ _ => pts_yes) (fun _ _ _ _ _ => (s_tup (a_cons (s_tup (a_cons (s_var 7) a_nil)) (a_cons s_int a_nil))))) (s_lst (a_cons (s_tup (a_cons (s_tup (a_cons (s_var 0) a_nil)) (a_cons s_int a_nil))) a_nil)))) (ss_cons (st_asgO (pg_name (i := 2) sc_54.nd rfl (by first | exact Or.inl rfl | exact Or.inr rfl)) (n_lst a_nil)) (ss_cons (st_for (pt := (.nm 3)) T.hk po_def rfl (i_range1 rfl T.n_range (s_add T.hk (s_var 0) s_int)) (pg_name (i := 3) sc_54.nd rfl (by first | exact Or.inl rfl | exact Or.inr rfl)) (ss_cons (st_asg (pg_name (i := 6) sc_54.nd rfl (by first | exact Or.inl rfl | exact Or.inr rfl)) (s_ifExp (t_eq T.hk (hU hr 64) (s_weak (s_var 3)) (s_weak (s_var 0))) (s_tup a_nil) (s_tup (a_cons (s_var 3) a_nil)))) (ss_one (st_append T.hk (pv 2) (s_add T.hk (s_comp (own := [("_law_thing", 7)]) (pt := (.nm 7)) T.hk rfl sc_54.nd (i_range1 rfl T.n_range (s_var 0)) (blkOk_by (N := N_54) (sc := defScope s_54) (by decide +kernel)) (by decide) (fun _ _ _ _ _ => (pg_name (i := 7) sc_54.nd rfl (by first | exact Or.inl rfl | exact Or.inr rfl))) (fun _ _ _ _ _ => pts_yes) (fun _ _ _ _ _ => (s_tup (a_cons (s_var 6) (a_cons (s_var 7) a_nil))))) (s_lst (a_cons (s_tup (a_cons (s_add T.hk (s_var 6) (s_tup (a_cons (s_neg s_int) a_nil))) (a_cons (s_var 0) a_nil))) a_nil))))))) (ss_cons (st_asg (pg_name (i := 4) sc_54.nd rfl (by first | exact Or.inl rfl | exact Or.inr rfl)) (s_add T.hk (s_lst (a_cons (s_var 0) a_nil)) (s_listR rfl rfl T.n_list rfl T.n_range (s_var 0)))) (ss_cons (st_asgO (pg_name (i := 5) sc_54.nd rfl (by first | exact Or.inl rfl | exact Or.inr rfl)) (n_lst a_nil)) (ss_cons (st_for (pt := (.nm 3)) T.hk po_def rfl (i_seq T.hk (s_var 4)) (pg_name (i := 3) sc_54.nd rfl (by first | exact Or.inl rfl | exact Or.inr rfl)) (ss_one (st_append T.hk (pv 5) (s_comp (own := [("_law_events_here", 8), ("_law_later", 9)]) (pt := (.tp [8, 9])) T.hk rfl sc_54.nd (i_seq T.hk (s_ixO T.hk (hU hr 1) (pv 2) (s_var 3))) (blkOk_by (N := N_54) (sc := defScope s_54) (by decide +kernel)) (by decide) (fun _ _ _ _ _ => (pg_tp rfl (gn_cons (pg_name (i := 8) sc_54.nd rfl (by first | exact Or.inl rfl | exact Or.inr rfl)) (gn_cons (pg_name (i := 9) sc_54.nd rfl (by first | exact Or.inl rfl | exact Or.inr rfl)) gn_nil)))) (fun _ _ _ _ _ => pts_yes) (fun _ _ _ _ _ => (s_tup (a_cons (s_var 8) (a_cons (s_index T.hk (hU hr 65) (s_weak (s_var 4)) (s_weak (s_var 9))) a_nil)))))))) (ss_one (st_frz 5 (st_ret (s_tup (a_cons (s_tup (a_cons (s_add T.hk (s_var 0) s_int) (a_cons (s_var 0) (a_cons (s_lst (a_cons (s_var 1) a_nil)) a_nil)))) (a_cons (s_tup (a_cons (s_add T.hk (s_var 0) s_int) (a_cons (s_var 0) (a_cons (s_var 5) a_nil)))) a_nil))))))))))))⟩
abbrev N_55 : List Str := ["_law_kinds", "_law_writer_here", "_law_table", "_law_first", "_law_row", "_law_thing", "_law_sign"]
theorem sc_55 : FnScope N_55 ["_law_kinds"] (defScope s_55) := ⟨rfl, rfl, rfl, by decide +kernel, rfl, by decide +kernel, by decide +kernel⟩
def c_55 : { m : List D → T D // ∀ {P : Program} {w : World} {K : PySem.W.Frag} {mg : Str → Option Value} {base : Heap} {G : GC} {f cd tb : Nat → Addr} {fd : Nat → FuncData}, Fx P w K mg base G f cd tb fd → FnOk P w K mg base (L2.CX P w) 1 (f 55) (fd 55) ["_law_kinds"] (spM G 1 m) } :=
  ⟨_, fun {_ _ _ _ _ _ _ _ _ _} T => fn_ok (N := N_55) T.F_55 sc_55 fun cdv A outer s H E hr => (ss_cons (st_asgC (i := 1) (own := [("_law_thing", 5)]) (pt := (.nm 5)) T.hk rfl sc_55.nd rfl rfl rfl (i_range1 rfl T.n_range (s_add T.hk (s_var 0) s_int)) (blkOk_by (N := N_55) (sc := defScope s_55) (by decide +kernel)) (by decide) (fun _ _ _ _ _ => (pg_name (i := 5) sc_55.nd rfl (by first | exact Or.inl rfl | exact Or.inr rfl))) (fun _ _ _ _ _ => pts_yes) (fun _ _ _ _ _ => (s_tup (a_cons (s_tup (a_cons (s_var 5) (a_cons (s_var 5) a_nil))) (a_cons s_int a_nil))))) (ss_cons (st_asgO (pg_name (i := 2) sc_55.nd rfl (by first | exact Or.inl rfl | exact Or.inr rfl)) (n_lst (a_cons (s_comp (own := [("_law_sign", 6)]) (pt := (.nm 6)) T.hk rfl sc_55.nd (i_range1 rfl T.n_range (s_add T.hk (s_var 0) s_int)) (blkOk_by (N := N_55) (sc := defScope s_55) (by decide +kernel)) (by decide) (fun _ _ _ _ _ => (pg_name (i := 6) sc_55.nd rfl (by first | exact Or.inl rfl | exact Or.inr rfl))) (fun _ _ _ _ _ => pts_yes) (fun _ _ _ _ _ => (s_tup (a_cons (s_tup a_nil) (a_cons (s_add T.hk s_int (s_var 6)) a_nil))))) a_nil))) (ss_cons (st_for (pt := (.nm 3)) T.hk po_def rfl (i_range1 rfl T.n_range (s_add T.hk (s_var 0) s_int)) (pg_name (i := 3) sc_55.nd rfl (by first | exact Or.inl rfl | exact Or.inr rfl)) (ss_cons (st_asgOC (i := 4) (own := [("_law_sign", 6)]) (pt := (.nm 6)) T.hk rfl sc_55.nd rfl rfl rfl (i_range1 rfl T.n_range (s_add T.hk (s_var 0) s_int)) (blkOk_by (N := N_55) (sc := defScope s_55) (by decide +kernel)) (by decide) (fun _ _ _ _ _ => (pg_name (i := 6) sc_55.nd rfl (by first | exact Or.inl rfl | exact Or.inr rfl))) (fun _ _ _ _ _ => pts_yes) (fun _ _ _ _ _ => (s_tup (a_cons (s_tup (a_cons (s_neg s_int) a_nil)) (a_cons s_int a_nil))))) (ss_cons (st_setx T.hk (pv 4) (s_var 3) (s_tup (a_cons (s_tup (a_cons (s_ifExp (t_lt (s_var 3) (s_var 0)) (s_var 3) (s_neg s_int)) a_nil)) (a_cons s_int a_nil))) (fun _ h => pg_sub (pv 4) (s_var 3) h)) (ss_one (st_frz 4 (st_append T.hk (pv 2) (s_var 4))))))) (ss_one (st_frz 2 (st_ret (s_tup (a_cons (s_tup (a_cons (s_add T.hk (s_var 0) s_int) (a_cons (s_var 0) (a_cons (s_lst (a_cons (s_var 1) a_nil)) a_nil)))) (a_cons (s_tup (a_cons (s_add T.hk (s_var 0) s_int) (a_cons (s_var 0) (a_cons (s_var 2) a_nil)))) a_nil)))))))))⟩
abbrev N_56 : List Str := ["_law_kinds", "_law_many", "_law_writer_here", "_law_reader_here", "_law_row", "_law_sign", "_law_thing"]
theorem sc_56 : FnScope N_56 ["_law_kinds"] (defScope s_56) := ⟨rfl, rfl, rfl, by decide +kernel, rfl, by decide +kernel, by decide +kernel⟩
def c_56 : { m : List D → T D // ∀ {P : Program} {w : World} {K : PySem.W.Frag} {mg : Str → Option Value} {base : Heap} {G : GC} {f cd tb : Nat → Addr} {fd : Nat → FuncData}, Fx P w K mg base G f cd tb fd → FnOk P w K mg base (L2.CX P w) 1 (f 56) (fd 56) ["_law_kinds"] (spM G 1 m) } :=
  ⟨_, fun {_ _ _ _ _ _ _ _ _ _} T => fn_ok (N := N_56) T.F_56 sc_56 fun cdv A outer s H E hr => (ss_cons (st_asg (pg_name (i := 1) sc_56.nd rfl (by first | exact Or.inl rfl | exact Or.inr rfl)) (s_add T.hk (s_var 0) s_int)) (ss_cons (st_asg (pg_name (i := 2) sc_56.nd rfl (by first | exact Or.inl rfl | exact Or.inr rfl)) (s_lst (a_cons (s_comp (own := [("_law_thing", 6)]) (pt := (.nm 6)) T.hk rfl sc_56.nd (i_range1 rfl T.n_range (s_var 1)) (blkOk_by (N := N_56) (sc := defScope s_56) (by decide +kernel)) (by decide) (fun _ _ _ _ _ => (pg_name (i := 6) sc_56.nd rfl (by first | exact Or.inl rfl | exact Or.inr rfl))) (fun _ _ _ _ _ => pts_yes) (fun _ _ _ _ _ => (s_tup (a_cons (s_tup (a_cons (s_var 6) a_nil)) (a_cons s_int a_nil))))) (a_cons (s_comp (own := [("_law_thing", 6)]) (pt := (.nm 6)) T.hk rfl sc_56.nd (i_range1 rfl T.n_range (s_var 1)) (blkOk_by (N := N_56) (sc := defScope s_56) (by decide +kernel)) (by decide) (fun _ _ _ _ _ => (pg_name (i := 6) sc_56.nd rfl (by first | exact Or.inl rfl | exact Or.inr rfl))) (fun _ _ _ _ _ => pts_yes) (fun _ _ _ _ _ => (s_tup (a_cons (s_tup (a_cons (s_mod (s_intF rfl T.n_int (s_add T.hk (s_var 6) s_int)) (s_var 1)) a_nil)) (a_cons s_int a_nil))))) a_nil)))) (ss_cons (st_asgO (pg_name (i := 3) sc_56.nd rfl (by first | exact Or.inl rfl | exact Or.inr rfl)) (n_lst (a_cons (s_comp (own := [("_law_sign", 5)]) (pt := (.nm 5)) T.hk rfl sc_56.nd (i_range1 rfl T.n_range (s_var 1)) (blkOk_by (N := N_56) (sc := defScope s_56) (by decide +kernel)) (by decide) (fun _ _ _ _ _ => (pg_name (i := 5) sc_56.nd rfl (by first | exact Or.inl rfl | exact Or.inr rfl))) (fun _ _ _ _ _ => pts_yes) (fun _ _ _ _ _ => (s_tup (a_cons (s_tup (a_cons (s_ifExp (t_lt (s_var 5) (s_var 0)) (s_var 5) (s_neg s_int)) a_nil)) (a_cons s_int a_nil))))) a_nil))) (ss_cons (st_asgC (i := 4) (own := [("_law_sign", 5)]) (pt := (.nm 5)) T.hk rfl sc_56.nd rfl rfl rfl (i_range2 rfl T.n_range s_int (s_var 1)) (blkOk_by (N := N_56) (sc := defScope s_56) (by decide +kernel)) (by decide) (fun _ _ _ _ _ => (pg_name (i := 5) sc_56.nd rfl (by first | exact Or.inl rfl | exact Or.inr rfl))) (fun _ _ _ _ _ => pts_yes) (fun _ _ _ _ _ => (s_tup (a_cons (s_tup (a_cons (s_sub (s_var 5) s_int) a_nil)) (a_cons s_int a_nil))))) (ss_cons (st_append T.hk (pv 3) (s_add T.hk (s_lst (a_cons (s_tup (a_cons (s_tup (a_cons (s_neg s_int) a_nil)) (a_cons s_int a_nil))) a_nil)) (s_var 4))) (ss_one (st_frz 3 (st_ret (s_tup (a_cons (s_tup (a_cons (s_var 1) (a_cons (s_var 0) (a_cons (s_var 2) a_nil)))) (a_cons (s_tup (a_cons (s_var 1) (a_cons (s_var 0) (a_cons (s_var 3) a_nil)))) a_nil)))))))))))⟩
abbrev N_57 : List Str := ["_law_pen_here", "_law_duo_here", "_law_writer_here", "_law_reader_here", "_law_many", "_law_kinds", "_law_road", "_law_events_here", "_law_state", "_law_k", "_law_row"]
theorem sc_57 : FnScope N_57 ["_law_pen_here", "_law_duo_here"] (defScope s_57) := ⟨rfl, rfl, rfl, by decide +kernel, rfl, by decide +kernel, by decide +kernel⟩
def c_57 : { m : List D → T D // ∀ {P : Program} {w : World} {K : PySem.W.Frag} {mg : Str → Option Value} {base : Heap} {G : GC} {f cd tb : Nat → Addr} {fd : Nat → FuncData}, Fx P w K mg base G f cd tb fd → FnOk P w K mg base (L2.CX P w) 4 (f 57) (fd 57) ["_law_pen_here", "_law_duo_here"] (spM G 2 m) } :=
  ⟨_, fun {_ _ _ _ _ _ _ _ _ _} T => fn_ok (N := N_57) T.F_57 sc_57 fun cdv A outer s H E hr => (ss_cons (st_parO (i := 2) (j := 3) rfl sc_57.nd rfl rfl (by decide) rfl rfl (n_compLL (own := [("_law_row", 10)]) (pt := (.nm 10)) T.hk rfl sc_57.nd (i_seq T.hk (s_ix T.hk (hU hr 1) (s_ix T.hk (hU hr 1) (s_var 1) s_int) s_int)) (blkOk_by (N := N_57) (sc := defScope s_57) (by decide +kernel)) (by decide) (fun _ _ _ _ _ => (pg_name (i := 10) sc_57.nd rfl (by first | exact Or.inl rfl | exact Or.inr rfl))) (fun _ _ _ _ _ => (n_list T.hk rfl T.n_list (s_var 10)))) (n_compLL (own := [("_law_row", 10)]) (pt := (.nm 10)) T.hk rfl sc_57.nd (i_seq T.hk (s_ix T.hk (hU hr 1) (s_ix T.hk (hU hr 1) (s_var 1) s_int) s_int)) (blkOk_by (N := N_57) (sc := defScope s_57) (by decide +kernel)) (by decide) (fun _ _ _ _ _ => (pg_name (i := 10) sc_57.nd rfl (by first | exact Or.inl rfl | exact Or.inr rfl))) (fun _ _ _ _ _ => (n_list T.hk rfl T.n_list (s_var 10)))) rfl) (ss_cons (st_par3O (i := 4) (j := 5) (l := 6) rfl sc_57.nd rfl rfl rfl (by decide) (by decide) (by decide) rfl rfl rfl (n_q (s_ix T.hk (hU hr 1) (s_ix T.hk (hU hr 1) (s_var 1) s_int) s_int)) (n_q (s_ix T.hk (hU hr 1) (s_ix T.hk (hU hr 1) (s_var 1) s_int) s_int)) (n_q (s_call tk_def (c_45.2 T) (hr.mono (by decide)) rfl T.g_45 T.F_45.kp T.b_45 (a_cons (s_var 0) (a_cons s_int a_nil)))) rfl) (ss_cons (st_if (t_eq T.hk (hU hr 64) (s_weak (s_var 6)) (s_weak s_int)) (ss_cons (st_parO (i := 8) (j := 9) rfl sc_57.nd rfl rfl (by decide) rfl rfl (n_q (s_call tk_def (c_45.2 T) (hr.mono (by decide)) rfl T.g_45 T.F_45.kp T.b_45 (a_cons (s_var 0) (a_cons (s_len T.hk rfl T.n_len (s_look 2)) a_nil)))) (n_q (s_call tk_def (c_45.2 T) (hr.mono (by decide)) rfl T.g_45 T.F_45.kp T.b_45 (a_cons (s_var 0) (a_cons (s_add T.hk (s_var 5) s_int) a_nil)))) rfl) (ss_one (st_setll T.hk (pv 2) (s_var 8) (s_tup (a_cons (s_call tk_def (c_46.2 T) (hr.mono (by decide)) rfl T.g_46 T.F_46.kp T.b_46 (a_cons (s_var 0) (a_cons (s_var 4) (a_cons s_int a_nil)))) (a_cons (s_call tk_def (c_45.2 T) (hr.mono (by decide)) rfl T.g_45 T.F_45.kp T.b_45 (a_cons (s_var 0) (a_cons (s_len T.hk rfl T.n_len (s_look 2)) a_nil))) a_nil))) (fun _ ho _ h => pg_sub ho (s_var 9) h)))) (ss_cons (st_parO (i := 8) (j := 9) rfl sc_57.nd rfl rfl (by decide) rfl rfl (n_q (s_call tk_def (c_45.2 T) (hr.mono (by decide)) rfl T.g_45 T.F_45.kp T.b_45 (a_cons (s_var 0) (a_cons (s_len T.hk rfl T.n_len (s_look 3)) a_nil)))) (n_q (s_call tk_def (c_45.2 T) (hr.mono (by decide)) rfl T.g_45 T.F_45.kp T.b_45 (a_cons (s_var 0) (a_cons (s_var 4) a_nil)))) rfl) (ss_cons (st_asg (pg_name (i := 7) sc_57.nd rfl (by first | exact Or.inl rfl | exact Or.inr rfl)) (s_ifExp (t_eq T.hk (hU hr 64) (s_weak (s_var 6)) (s_weak s_int)) (s_flat (s_ix T.hk (hU hr 1) (s_ix T.hk (hU hr 1) (s_ix T.hk (hU hr 1) (s_look 3) (s_var 8)) (s_var 9)) s_int)) (s_call tk_def (c_47.2 T) (hr.mono (by decide)) rfl T.g_47 T.F_47.kp T.b_47 (a_cons (s_var 0) (a_cons (s_var 5) (a_cons s_int a_nil)))))) (ss_one (st_setll T.hk (pv 3) (s_var 8) (s_tup (a_cons (s_var 7) (a_cons (s_call tk_def (c_45.2 T) (hr.mono (by decide)) rfl T.g_45 T.F_45.kp T.b_45 (a_cons (s_var 0) (a_cons (s_len T.hk rfl T.n_len (s_look 3)) a_nil))) a_nil))) (fun _ ho _ h => pg_sub ho (s_var 9) h)))))) (ss_one (st_frz 2 (st_frz 3 (st_ret (s_tup (a_cons (s_tup (a_cons (s_var 4) (a_cons (s_var 5) (a_cons (s_var 2) a_nil)))) (a_cons (s_tup (a_cons (s_var 4) (a_cons (s_var 5) (a_cons (s_var 3) a_nil)))) a_nil))))))))))⟩
abbrev N_58 : List Str := ["_law_pen_here", "_law_most_kinds", "_law_duo_here", "_law_turn", "_law_kinds", "_law_road", "_law_many"]
theorem sc_58 : FnScope N_58 ["_law_pen_here", "_law_most_kinds"] (defScope s_58) := ⟨rfl, rfl, rfl, by decide +kernel, rfl, by decide +kernel, by decide +kernel⟩
def c_58 : { m : List D → T D // ∀ {P : Program} {w : World} {K : PySem.W.Frag} {mg : Str → Option Value} {base : Heap} {G : GC} {f cd tb : Nat → Addr} {fd : Nat → FuncData}, Fx P w K mg base G f cd tb fd → FnOk P w K mg base (L2.CX P w) 5 (f 58) (fd 58) ["_law_pen_here", "_law_most_kinds"] (spM G 2 m) } :=
  ⟨_, fun {_ _ _ _ _ _ _ _ _ _} T => fn_ok (N := N_58) T.F_58 sc_58 fun cdv A outer s H E hr => (ss_cons (st_parO (i := 4) (j := 5) rfl sc_58.nd rfl rfl (by decide) rfl rfl (n_q (s_add T.hk s_int (s_call tk_def (c_45.2 T) (hr.mono (by decide)) rfl T.g_45 T.F_45.kp T.b_45 (a_cons (s_var 0) (a_cons (s_var 1) a_nil))))) (n_q (s_call tk_def (c_45.2 T) (hr.mono (by decide)) rfl T.g_45 T.F_45.kp T.b_45 (a_cons (s_var 0) (a_cons s_int a_nil)))) rfl) (ss_cons (st_if (t_eq T.hk (hU hr 64) (s_weak (s_var 5)) (s_weak s_int)) (ss_cons (st_asg (pg_name (i := 6) sc_58.nd rfl (by first | exact Or.inl rfl | exact Or.inr rfl)) (s_add T.hk s_int (s_call tk_def (c_45.2 T) (hr.mono (by decide)) rfl T.g_45 T.F_45.kp T.b_45 (a_cons (s_var 0) (a_cons s_int a_nil))))) (ss_one (st_ret (s_tup (a_cons (s_call tk_def (c_48.2 T) (hr.mono (by decide)) rfl T.g_48 T.F_48.kp T.b_48 (a_cons (s_var 0) (a_cons (s_var 6) (a_cons (s_var 4) (a_cons s_int (a_cons s_int a_nil)))))) (a_cons (s_call tk_def (c_49.2 T) (hr.mono (by decide)) rfl T.g_49 T.F_49.kp T.b_49 (a_cons (s_var 0) (a_cons (s_var 6) (a_cons (s_var 4) (a_cons s_int (a_cons s_int a_nil)))))) a_nil)))))) ss_nil) (ss_cons (st_asg (pg_name (i := 2) sc_58.nd rfl (by first | exact Or.inl rfl | exact Or.inr rfl)) (s_call tk_def (c_52.2 T) (hr.mono (by decide)) rfl T.g_52 T.F_52.kp T.b_52 (a_cons (s_var 4) a_nil))) (ss_cons (st_if (t_eq T.hk (hU hr 64) (s_weak (s_var 5)) (s_weak s_int)) (ss_one (st_asg (pg_name (i := 2) sc_58.nd rfl (by first | exact Or.inl rfl | exact Or.inr rfl)) (s_call tk_def (c_53.2 T) (hr.mono (by decide)) rfl T.g_53 T.F_53.kp T.b_53 (a_cons (s_max2 rfl rfl T.n_max s_int (s_var 4)) a_nil)))) (ss_one (st_if (t_eq T.hk (hU hr 64) (s_weak (s_var 5)) (s_weak s_int)) (ss_one (st_asg (pg_name (i := 2) sc_58.nd rfl (by first | exact Or.inl rfl | exact Or.inr rfl)) (s_call tk_def (c_54.2 T) (hr.mono (by decide)) rfl T.g_54 T.F_54.kp T.b_54 (a_cons (s_var 4) a_nil)))) (ss_one (st_if (t_gt (s_var 5) s_int) (ss_one (st_asg (pg_name (i := 2) sc_58.nd rfl (by first | exact Or.inl rfl | exact Or.inr rfl)) (s_ifExp (t_lt (s_var 5) s_int) (s_call tk_def (c_55.2 T) (hr.mono (by decide)) rfl T.g_55 T.F_55.kp T.b_55 (a_cons (s_var 4) a_nil)) (s_call tk_def (c_56.2 T) (hr.mono (by decide)) rfl T.g_56 T.F_56.kp T.b_56 (a_cons (s_var 4) a_nil))))) ss_nil))))) (ss_cons (st_for (pt := (.nm 3)) T.hk po_def rfl (i_range1 rfl T.n_range (s_max2 rfl rfl T.n_max s_int (s_sub (s_call tk_def (c_45.2 T) (hr.mono (by decide)) rfl T.g_45 T.F_45.kp T.b_45 (a_cons (s_var 0) (a_cons s_int a_nil))) s_int))) (pg_name (i := 3) sc_58.nd rfl (by first | exact Or.inl rfl | exact Or.inr rfl)) (ss_one (st_asg (pg_name (i := 2) sc_58.nd rfl (by first | exact Or.inl rfl | exact Or.inr rfl)) (s_call tk_def (c_57.2 T) (hr.mono (by decide)) rfl T.g_57 T.F_57.kp T.b_57 (a_cons (s_var 0) (a_cons (s_var 2) a_nil)))))) (ss_one (st_ret (s_var 2))))))))⟩
abbrev N_59 : List Str := ["_law_one", "_law_two", "_law_road", "_law_caught", "_law_found", "e"]
theorem sc_59 : FnScope N_59 ["_law_one", "_law_two", "_law_road"] (defScope s_59) := ⟨rfl, rfl, rfl, by decide +kernel, rfl, by decide +kernel, by decide +kernel⟩
def c_59 : { m : List D → T D // ∀ {P : Program} {w : World} {K : PySem.W.Frag} {mg : Str → Option Value} {base : Heap} {G : GC} {f cd tb : Nat → Addr} {fd : Nat → FuncData}, Fx P w K mg base G f cd tb fd → FnOk P w K mg base (L2.CX P w) 8 (f 59) (fd 59) ["_law_one", "_law_two", "_law_road"] (spM G 3 m) } :=
  ⟨_, fun {_ _ _ _ _ _ _ _ _ _} T => fn_ok (N := N_59) T.F_59 sc_59 fun cdv A outer s H E hr => (ss_cons (st_asg (pg_name (i := 3) sc_59.nd rfl (by first | exact Or.inl rfl | exact Or.inr rfl)) s_non) (ss_cons (st_asg (pg_name (i := 4) sc_59.nd rfl (by first | exact Or.inl rfl | exact Or.inr rfl)) s_non) (ss_cons (st_try (xm := xm_2) (i := 5) (j := 3) T.hk T.x_2 rfl rfl rfl sc_59.nd rfl rfl rfl rfl (names_of rfl T.g_2) tk_def fun W pn xe tk hp => (ss_one (st_if (t_eq T.hk (hU hr 64) (s_weak (s_var 2)) (s_weak s_int)) (ss_one (st_asg (pg_name (i := 4) sc_59.nd rfl (by first | exact Or.inl rfl | exact Or.inr rfl)) (s_call tk (c_38.2 T) (hr.mono (by decide)) rfl T.g_38 T.F_38.kp T.b_38 (a_cons (s_var 0) (a_cons (s_var 1) a_nil))))) (ss_one (st_asg (pg_name (i := 4) sc_59.nd rfl (by first | exact Or.inl rfl | exact Or.inr rfl)) (s_ifExp (t_eq T.hk (hU hr 64) (s_weak (s_var 2)) (s_weak s_int)) (s_call tk (c_39.2 T) (hr.mono (by decide)) rfl T.g_39 T.F_39.kp T.b_39 (a_cons (s_var 0) (a_cons (s_var 1) a_nil))) (s_call tk (c_41.2 T) (hr.mono (by decide)) rfl T.g_41 T.F_41.kp T.b_41 (a_cons (s_var 0) (a_cons (s_var 1) (a_cons s_non a_nil)))))))))) (ss_cons (st_if (L2.PW.pt (t_or (t_isN (s_weak (s_var 3)) (s_weak s_non)) (t_or1 (t_val T.hk (s_isi T.hk T.TF T.TB rfl T.n_isinstance (a_cons (s_var 3) (a_cons (s_tup (a_cons (s_globC rfl T.g_9 T.a_9) (a_cons (s_globC rfl T.g_5 T.a_5) a_nil))) a_nil))))))) (ss_one (st_ret (s_ifExp (t_isN (s_weak (s_var 3)) (s_weak s_non)) s_str s_str))) ss_nil) (ss_one (st_ret (s_ifExp (t_val T.hk (s_isi T.hk T.TF T.TB rfl T.n_isinstance (a_cons (s_var 3) (a_cons (s_globC rfl T.g_8 T.a_8) a_nil)))) s_str s_str)))))))⟩
abbrev N_60 : List Str := ["_law_script", "_law_pen_here", "_law_turn", "_law_duo_here", "_law_pairs_here", "_law_less", "_law_road", "_law_many", "_law_kinds", "_law_writer_here", "_law_reader_here", "_law_one", "_law_two"]
theorem sc_60 : FnScope N_60 ["_law_script"] (defScope s_60) := ⟨rfl, rfl, rfl, by decide +kernel, rfl, by decide +kernel, by decide +kernel⟩
theorem h_60 {P : Program} {w : World} {K : PySem.W.Frag} {mg : Str → Option Value} {base : Heap} {G : GC} {f cd tb : Nat → Addr} {fd : Nat → FuncData} (T : Fx P w K mg base G f cd tb fd) (cdv : Value) (A : Around) (outer : List PySem.Env) (s : Shared) (H : Hp) (E : XK) (hr : Room 10 (A.deeper (envOfC "law" (defScope s_60) s.heap.objs.size (f 60) cdv))) : PS (cxOf (L2.CX P w) P w K mg base N_60 "law" (defScope s_60) (f 60) cdv A outer s H E) (hd0 s_60) (tAsg (tCall (spPen K) [] E0 (L2.tCons (L2.tVar 0) L2.tNil)) (gName 1)) :=
  ps_asg (pe_call (Stp.ok_pen T.F_43 T.TP) (hr.mono (by decide)) rfl T.g_43 T.F_43.kp T.b_43 .nil pass0 (pa_cons (pv 0) pa_nil)) (pg_name (i := 1) sc_60.nd rfl (by first | exact Or.inl rfl | exact Or.inr rfl))
def b_60 : { m : Pu.Env → T Fl // ∀ {P : Program} {w : World} {K : PySem.W.Frag} {mg : Str → Option Value} {base : Heap} {G : GC} {f cd tb : Nat → Addr} {fd : Nat → FuncData}, Fx P w K mg base G f cd tb fd → ∀ (cdv : Value) (A : Around) (outer : List PySem.Env) (s : Shared) (H : Hp) (E : XK), Room 10 (A.deeper (envOfC "law" (defScope s_60) s.heap.objs.size (f 60) cdv)) → (A.deeper (envOfC "law" (defScope s_60) s.heap.objs.size (f 60) cdv)).guards = some [] → PSs (cxOf (L2.CX P w) P w K mg base N_60 "law" (defScope s_60) (f 60) cdv A outer s H E) (tl0 s_60) (tS G (fun cls d _ H => E cls d H) m) } :=
  ⟨_, fun {_ _ _ _ _ _ _ _ _ _} T cdv A outer s H E hr hgd => (ss_cons (st_for (pt := (.nm 2)) T.hk po_def rfl (i_range1 rfl T.n_range s_int) (pg_name (i := 2) sc_60.nd rfl (by first | exact Or.inl rfl | exact Or.inr rfl)) (ss_cons (st_asg (pg_name (i := 3) sc_60.nd rfl (by first | exact Or.inl rfl | exact Or.inr rfl)) (s_call tk_def (c_58.2 T) (hr.mono (by decide)) rfl T.g_58 T.F_58.kp T.b_58 (a_cons (s_var 1) (a_cons s_int a_nil)))) (ss_cons (st_parO (i := 7) (j := 8) rfl sc_60.nd rfl rfl (by decide) rfl rfl (n_q (s_ix T.hk (hU hr 1) (s_ix T.hk (hU hr 1) (s_var 3) s_int) s_int)) (n_q (s_ix T.hk (hU hr 1) (s_ix T.hk (hU hr 1) (s_var 3) s_int) s_int)) rfl) (ss_cons (st_parO (i := 9) (j := 10) rfl sc_60.nd rfl rfl (by decide) rfl rfl (n_q (s_call tk_def (c_50.2 T) (hr.mono (by decide)) rfl T.g_50 T.F_50.kp T.b_50 (a_cons (s_ix T.hk (hU hr 1) (s_var 3) s_int) a_nil))) (n_q (s_call tk_def (c_51.2 T) (hr.mono (by decide)) rfl T.g_51 T.F_51.kp T.b_51 (a_cons (s_ix T.hk (hU hr 1) (s_var 3) s_int) a_nil))) rfl) (ss_cons (st_asgO (pg_name (i := 4) sc_60.nd rfl (by first | exact Or.inl rfl | exact Or.inr rfl)) (n_lst (a_cons (s_tup (a_cons (s_var 9) (a_cons (s_var 10) a_nil))) (a_cons (s_tup (a_cons (s_var 9) (a_cons (s_mak tk_def T.a_31 T.mk_31 (c_31000.2 T) (hr.mono (by decide)) rfl T.g_31 T.b_31000 (a_cons (s_add T.hk (s_var 7) s_int) (a_cons (s_var 8) (a_cons (s_lst (a_cons (s_mul T.hk (s_lst (a_cons (s_tup (a_cons (s_tup a_nil) (a_cons s_int a_nil))) a_nil)) (s_add T.hk (s_var 8) s_int)) a_nil)) a_nil)))) a_nil))) a_nil)))) (ss_cons (st_append T.hk (pv 4) (s_tup (a_cons (s_var 9) (a_cons (s_mak tk_def T.a_31 T.mk_31 (c_31000.2 T) (hr.mono (by decide)) rfl T.g_31 T.b_31000 (a_cons (s_var 7) (a_cons (s_add T.hk (s_var 8) s_int) (a_cons (s_lst (a_cons (s_mul T.hk (s_lst (a_cons (s_tup (a_cons (s_tup a_nil) (a_cons s_int a_nil))) a_nil)) (s_add T.hk (s_var 8) s_int)) a_nil)) a_nil)))) a_nil)))) (ss_cons (st_append T.hk (pv 4) (s_tup (a_cons (s_var 10) (a_cons (s_mak tk_def T.a_32 T.mk_32 (c_32000.2 T) (hr.mono (by decide)) rfl T.g_32 T.b_32000 (a_cons (s_add T.hk (s_var 7) s_int) (a_cons (s_var 8) (a_cons (s_lst (a_cons (s_mul T.hk (s_lst (a_cons (s_tup (a_cons (s_tup a_nil) (a_cons s_int a_nil))) a_nil)) (s_add T.hk (s_var 7) s_int)) a_nil)) a_nil)))) a_nil)))) (ss_cons (st_append T.hk (pv 4) (s_tup (a_cons (s_var 10) (a_cons (s_mak tk_def T.a_32 T.mk_32 (c_32000.2 T) (hr.mono (by decide)) rfl T.g_32 T.b_32000 (a_cons (s_var 7) (a_cons (s_add T.hk (s_var 8) s_int) (a_cons (s_lst (a_cons (s_mul T.hk (s_lst (a_cons (s_tup (a_cons (s_tup a_nil) (a_cons s_int a_nil))) a_nil)) (s_var 7)) a_nil)) a_nil)))) a_nil)))) (ss_cons (st_asg (pg_name (i := 5) sc_60.nd rfl (by first | exact Or.inl rfl | exact Or.inr rfl)) (s_ifExp (t_gt (s_var 8) s_int) (s_sub (s_var 8) s_int) (s_add T.hk (s_var 8) s_int))) (ss_cons (st_append T.hk (pv 4) (s_tup (a_cons (s_var 9) (a_cons (s_mak tk_def T.a_31 T.mk_31 (c_31000.2 T) (hr.mono (by decide)) rfl T.g_31 T.b_31000 (a_cons (s_add T.hk (s_var 7) s_int) (a_cons (s_var 5) (a_cons (s_lst (a_cons (s_mul T.hk (s_lst (a_cons (s_tup (a_cons (s_tup a_nil) (a_cons s_int a_nil))) a_nil)) (s_add T.hk (s_var 5) s_int)) a_nil)) a_nil)))) a_nil)))) (ss_cons (st_append T.hk (pv 4) (s_tup (a_cons (s_var 10) (a_cons (s_mak tk_def T.a_32 T.mk_32 (c_32000.2 T) (hr.mono (by decide)) rfl T.g_32 T.b_32000 (a_cons (s_add T.hk (s_var 7) s_int) (a_cons (s_var 5) (a_cons (s_lst (a_cons (s_mul T.hk (s_lst (a_cons (s_tup (a_cons (s_tup a_nil) (a_cons s_int a_nil))) a_nil)) (s_add T.hk (s_var 7) s_int)) a_nil)) a_nil)))) a_nil)))) (ss_cons (st_asg (pg_name (i := 5) sc_60.nd rfl (by first | exact Or.inl rfl | exact Or.inr rfl)) (s_ifExp (t_gt (s_var 7) s_int) (s_sub (s_var 7) s_int) (s_add T.hk (s_var 7) s_int))) (ss_cons (st_append T.hk (pv 4) (s_tup (a_cons (s_var 9) (a_cons (s_mak tk_def T.a_31 T.mk_31 (c_31000.2 T) (hr.mono (by decide)) rfl T.g_31 T.b_31000 (a_cons (s_var 5) (a_cons (s_add T.hk (s_var 8) s_int) (a_cons (s_lst (a_cons (s_mul T.hk (s_lst (a_cons (s_tup (a_cons (s_tup a_nil) (a_cons s_int a_nil))) a_nil)) (s_add T.hk (s_var 8) s_int)) a_nil)) a_nil)))) a_nil)))) (ss_cons (st_append T.hk (pv 4) (s_tup (a_cons (s_var 10) (a_cons (s_mak tk_def T.a_32 T.mk_32 (c_32000.2 T) (hr.mono (by decide)) rfl T.g_32 T.b_32000 (a_cons (s_var 5) (a_cons (s_add T.hk (s_var 8) s_int) (a_cons (s_lst (a_cons (s_mul T.hk (s_lst (a_cons (s_tup (a_cons (s_tup a_nil) (a_cons s_int a_nil))) a_nil)) (s_var 5)) a_nil)) a_nil)))) a_nil)))) (ss_cons (st_frz 4 (st_for (pt := (.tp [11, 12])) T.hk po_def rfl (i_seq T.hk (s_var 4)) (pg_tp rfl (gn_cons (pg_name (i := 11) sc_60.nd rfl (by first | exact Or.inl rfl | exact Or.inr rfl)) (gn_cons (pg_name (i := 12) sc_60.nd rfl (by first | exact Or.inl rfl | exact Or.inr rfl)) gn_nil))) (ss_one (st_for (pt := (.nm 6)) T.hk po_def rfl (i_range1 rfl T.n_range s_int) (pg_name (i := 6) sc_60.nd rfl (by first | exact Or.inl rfl | exact Or.inr rfl)) (ss_one (st_if (t_ne T.hk (hU hr 64) (s_weak (s_lst (a_cons (s_call tk_def (c_59.2 T) (hr.mono (by decide)) rfl T.g_59 T.F_59.kp T.b_59 (a_cons (s_var 11) (a_cons (s_var 12) (a_cons (s_var 6) a_nil)))) (a_cons (s_call tk_def (c_59.2 T) (hr.mono (by decide)) rfl T.g_59 T.F_59.kp T.b_59 (a_cons (s_var 12) (a_cons (s_var 11) (a_cons (s_var 6) a_nil)))) a_nil)))) (s_weak (s_lst (a_cons s_str (a_cons s_str a_nil))))) (ss_one (st_ret s_bl)) ss_nil)))))) (ss_one (st_for (pt := (.nm 6)) T.hk po_def rfl (i_range1 rfl T.n_range s_int) (pg_name (i := 6) sc_60.nd rfl (by first | exact Or.inl rfl | exact Or.inr rfl)) (ss_one (st_if (t_ne T.hk (hU hr 64) (s_weak (s_lst (a_cons (s_call tk_def (c_59.2 T) (hr.mono (by decide)) rfl T.g_59 T.F_59.kp T.b_59 (a_cons (s_var 9) (a_cons (s_var 9) (a_cons (s_var 6) a_nil)))) (a_cons (s_call tk_def (c_59.2 T) (hr.mono (by decide)) rfl T.g_59 T.F_59.kp T.b_59 (a_cons (s_var 10) (a_cons (s_var 10) (a_cons (s_var 6) a_nil)))) a_nil)))) (s_weak (s_lst (a_cons s_str (a_cons s_str a_nil))))) (ss_one (st_ret s_bl)) ss_nil))))))))))))))))))) (ss_one (st_ret s_bl)))⟩
theorem c_60 {P : Program} {w : World} {K : PySem.W.Frag} {mg : Str → Option Value} {base : Heap} {G : GC} {f cd tb : Nat → Addr} {fd : Nat → FuncData} (hw : lawOk N_60.length 1 b_60.1) (T : Fx P w K mg base G f cd tb fd) : FnG P w K mg base 11 (f 60) (fd 60) ["_law_script"] (spLaw G) :=
  law_ok (e := Expr.Constant .none 0 ⟨0, 0, 0, 0⟩) (px := ⟨0, 0, 0, 0⟩) (pos := ⟨0, 0, 0, 0⟩) (s0 := hd0 s_60) (rest := tl0 s_60) (N := N_60) (m := b_60.1) T.hk T.F_60 sc_60 rfl rfl (fun cdv A outer s H E hr => h_60 T cdv A outer s H E hr) (fun cdv A outer s H E hr hgd => b_60.2 T cdv A outer s H E hr hgd) hw
end Gx
set_option Elab.async false
set_option linter.all false
set_option maxRecDepth 100000
set_option maxHeartbeats 4000000
namespace Gx
open PySem L2 Stp NdefX LamX Pu
open PyProof.Rows hiding St
def tfL : List He.Defn := [("Writer", some "__init__"), ("Reader", some "__init__")]
def pd_0 : PD := ⟨fnAd "is_integer", "is_integer", "is_integer", top 12⟩
def pd_1 : PD := ⟨fnAd "is_below", "is_below", "is_below", top 13⟩
def pd_2 : PD := ⟨fnAd "is_word", "is_word", "is_word", top 14⟩
def pd_3 : PD := ⟨fnAd "are_numbers", "are_numbers", "are_numbers", top 24⟩
def pd_4 : PD := ⟨fnAd "is_input", "is_input", "is_input", top 25⟩
def pd_5 : PD := ⟨fnAd "are_events", "are_events", "are_events", top 26⟩
def pd_6 : PD := ⟨fnAd "is_move", "is_move", "is_move", top 27⟩
def pd_7 : PD := ⟨fnAd "is_row", "is_row", "is_row", top 28⟩
def pd_8 : PD := ⟨fnAd "are_rows", "are_rows", "are_rows", top 29⟩
def pd_9 : PD := ⟨gAd "Machine" "data", "data", "Machine.data", (C8.clsBody (top 30)).getD 2 (.Pass ⟨0, 0, 0, 0⟩)⟩
def pd_10 : PD := ⟨fnAd "inputs_of", "inputs_of", "inputs_of", top 33⟩
def pd_11 : PD := ⟨gAd "Machine" "signs", "signs", "Machine.signs", (C8.clsBody (top 30)).getD 1 (.Pass ⟨0, 0, 0, 0⟩)⟩
def pd_12 : PD := ⟨fnAd "check_same_kind", "check_same_kind", "check_same_kind", top 35⟩
def pd_13 : PD := ⟨fnAd "steps_of", "steps_of", "steps_of", top 36⟩
def pd_14 : PD := ⟨mAd "Machine" "check_state", "check_state", "Machine.check_state", (C8.clsBody (top 30)).getD 5 (.Pass ⟨0, 0, 0, 0⟩)⟩
def pd_15 : PD := ⟨mAd "Writer" "place", "place", "Writer.place", (C8.clsBody (top 31)).getD 1 (.Pass ⟨0, 0, 0, 0⟩)⟩
def pd_16 : PD := ⟨mAd "Writer" "step", "step", "Writer.step", (C8.clsBody (top 31)).getD 2 (.Pass ⟨0, 0, 0, 0⟩)⟩
def pd_17 : PD := ⟨mAd "Reader" "place", "place", "Reader.place", (C8.clsBody (top 32)).getD 1 (.Pass ⟨0, 0, 0, 0⟩)⟩
def pd_18 : PD := ⟨mAd "Reader" "step", "step", "Reader.step", (C8.clsBody (top 32)).getD 2 (.Pass ⟨0, 0, 0, 0⟩)⟩
def pd_19 : PD := ⟨fnAd "search", "search", "search", top 37⟩
def pd_20 : PD := ⟨fnAd "apart", "apart", "apart", top 38⟩
def pd_21 : PD := ⟨fnAd "together", "together", "together", top 39⟩
def pd_22 : PD := ⟨fnAd "is_pair", "is_pair", "is_pair", top 40⟩
def pd_23 : PD := ⟨fnAd "is_together", "is_together", "is_together", top 41⟩
def pd_24 : PD := ⟨fnAd "_law_word", "_law_word", "_law_word", top 46⟩
def pd_25 : PD := ⟨fnAd "_law_draw", "_law_draw", "_law_draw", top 45⟩
def pd_26 : PD := ⟨fnAd "_law_told_some", "_law_told_some", "_law_told_some", top 47⟩
def pd_27 : PD := ⟨fnAd "_law_writer", "_law_writer", "_law_writer", top 48⟩
def pd_28 : PD := ⟨fnAd "_law_reader", "_law_reader", "_law_reader", top 49⟩
def pd_29 : PD := ⟨mAd "Machine" "__init__", "__init__", "Machine.__init__", (C8.clsBody (top 30)).getD 0 (.Pass ⟨0, 0, 0, 0⟩)⟩
def pd_30 : PD := ⟨mAd "Writer" "__init__", "__init__", "Writer.__init__", (C8.clsBody (top 31)).getD 0 (.Pass ⟨0, 0, 0, 0⟩)⟩
def pd_31 : PD := ⟨fnAd "_law_writer_of", "_law_writer_of", "_law_writer_of", top 50⟩
def pd_32 : PD := ⟨mAd "Reader" "__init__", "__init__", "Reader.__init__", (C8.clsBody (top 32)).getD 0 (.Pass ⟨0, 0, 0, 0⟩)⟩
def pd_33 : PD := ⟨fnAd "_law_reader_of", "_law_reader_of", "_law_reader_of", top 51⟩
def pd_34 : PD := ⟨fnAd "_law_plain", "_law_plain", "_law_plain", top 52⟩
def pd_35 : PD := ⟨fnAd "_law_escaped", "_law_escaped", "_law_escaped", top 53⟩
def pd_36 : PD := ⟨fnAd "_law_late", "_law_late", "_law_late", top 54⟩
def pd_37 : PD := ⟨fnAd "_law_doubled", "_law_doubled", "_law_doubled", top 55⟩
def pd_38 : PD := ⟨fnAd "_law_turning", "_law_turning", "_law_turning", top 56⟩
def pd_39 : PD := ⟨fnAd "_law_changed", "_law_changed", "_law_changed", top 57⟩
def pd_40 : PD := ⟨fnAd "_law_duo", "_law_duo", "_law_duo", top 58⟩
def pd_41 : PD := ⟨fnAd "_law_error", "_law_error", "_law_error", top 59⟩
def pd_42 : PD := ⟨fnAd "law", "law", "law", top 60⟩
def pd_43 : PD := ⟨fnAd "_law_pen", "_law_pen", "_law_pen", top 43⟩
def pd_44 : PD := ⟨fnAd "_law_next", "_law_next", "_law_next", top 44⟩
def pds0 : List PD := [pd_0, pd_1, pd_2, pd_3, pd_4, pd_5, pd_6, pd_7, pd_8, pd_9, pd_10, pd_11, pd_12, pd_13, pd_14, pd_15, pd_16, pd_17, pd_18, pd_19]
def pds1 : List PD := [pd_20, pd_21, pd_22, pd_23, pd_24, pd_25, pd_26, pd_27, pd_28, pd_29, pd_30, pd_31, pd_32, pd_33, pd_34, pd_35, pd_36, pd_37, pd_38, pd_39]
def pds2 : List PD := [pd_40, pd_41, pd_42, pd_43, pd_44]
def pds : List PD := pds0 ++ pds1 ++ pds2
def fF (K : Fg) : Nat → Addr := fun i => match i with
  | 2 => fnAd "LineError" K
  | 3 => fnAd "InvalidWriter" K
  | 4 => fnAd "InvalidReader" K
  | 5 => fnAd "UnknownState" K
  | 6 => fnAd "InvalidInput" K
  | 7 => fnAd "InvalidSign" K
  | 8 => fnAd "Mismatch" K
  | 9 => fnAd "InvalidPair" K
  | 12 => fnAd "is_integer" K
  | 13 => fnAd "is_below" K
  | 14 => fnAd "is_word" K
  | 24 => fnAd "are_numbers" K
  | 25 => fnAd "is_input" K
  | 26 => fnAd "are_events" K
  | 27 => fnAd "is_move" K
  | 28 => fnAd "is_row" K
  | 29 => fnAd "are_rows" K
  | 30 => fnAd "Machine" K
  | 31 => fnAd "Writer" K
  | 32 => fnAd "Reader" K
  | 33 => fnAd "inputs_of" K
  | 35 => fnAd "check_same_kind" K
  | 36 => fnAd "steps_of" K
  | 37 => fnAd "search" K
  | 38 => fnAd "apart" K
  | 39 => fnAd "together" K
  | 40 => fnAd "is_pair" K
  | 41 => fnAd "is_together" K
  | 43 => fnAd "_law_pen" K
  | 44 => fnAd "_law_next" K
  | 45 => fnAd "_law_draw" K
  | 46 => fnAd "_law_word" K
  | 47 => fnAd "_law_told_some" K
  | 48 => fnAd "_law_writer" K
  | 49 => fnAd "_law_reader" K
  | 50 => fnAd "_law_writer_of" K
  | 51 => fnAd "_law_reader_of" K
  | 52 => fnAd "_law_plain" K
  | 53 => fnAd "_law_escaped" K
  | 54 => fnAd "_law_late" K
  | 55 => fnAd "_law_doubled" K
  | 56 => fnAd "_law_turning" K
  | 57 => fnAd "_law_changed" K
  | 58 => fnAd "_law_duo" K
  | 59 => fnAd "_law_error" K
  | 60 => fnAd "law" K
  | 30000 => mAd "Machine" "__init__" K
  | 30001 => gAd "Machine" "signs" K
  | 30002 => gAd "Machine" "data" K
  | 30005 => mAd "Machine" "check_state" K
  | 31000 => mAd "Writer" "__init__" K
  | 31001 => mAd "Writer" "place" K
  | 31002 => mAd "Writer" "step" K
  | 32000 => mAd "Reader" "__init__" K
  | 32001 => mAd "Reader" "place" K
  | 32002 => mAd "Reader" "step" K
  | _ => 0
def cdF (K : Fg) : Nat → Addr := fun i => match i with
  | 31000 => (He.cT K ("Writer", some "__init__")).1
  | 32000 => (He.cT K ("Reader", some "__init__")).1
  | _ => 0
def tbF (K : Fg) : Nat → Addr := fun i => match i with
  | 31000 => (He.cT K ("Writer", some "__init__")).2
  | 32000 => (He.cT K ("Reader", some "__init__")).2
  | _ => 0
def GT (K : Fg) : List NTab := [((He.cT K ("Writer", some "__init__")).2, nm_31000), ((He.cT K ("Reader", some "__init__")).2, nm_32000)]
def GG (K : Fg) : GC := ⟨K, cNames cTab K, GT K, fnPof LT, fnS_of LT⟩
def ex0 : List (Fg → Bool) := [fun K => cTab.all fun p => if p.1 < 100 then insB p.2 K else isxB p.2 K,
  fun K => kRows.all fun r => kitB cTab r K,
  fun K => decide ((GT K).map (·.1)).Nodup,
  fun K => (He.Fa.glo "is_integer").ok K,
  fun K => (He.Fa.free "isinstance").ok K,
  fun K => (He.Fa.free "bool").ok K,
  fun K => (He.Fa.free "int").ok K,
  fun K => (He.Fa.glo "is_below").ok K,
  fun K => (He.Fa.glo "is_word").ok K,
  fun K => (He.Fa.free "all").ok K,
  fun K => (He.Fa.free "len").ok K,
  fun K => (He.Fa.int "MAX_WORD" (12)).ok K,
  fun K => (He.Fa.free "tuple").ok K,
  fun K => (He.Fa.glo "are_numbers").ok K,
  fun K => (He.Fa.int "MAX_DATA" (6)).ok K,
  fun K => (He.Fa.int "MIN_SIGNS" (2)).ok K,
  fun K => (He.Fa.int "MAX_SIGNS" (6)).ok K,
  fun K => (He.Fa.glo "is_input").ok K,
  fun K => (He.Fa.int "END" (-1)).ok K,
  fun K => (He.Fa.glo "are_events").ok K]
def ex1 : List (Fg → Bool) := [fun K => (He.Fa.int "MAX_EVENTS" (8)).ok K,
  fun K => (He.Fa.int "DROP" (-2)).ok K,
  fun K => (He.Fa.glo "is_move").ok K,
  fun K => (He.Fa.glo "is_row").ok K,
  fun K => (He.Fa.free "list").ok K,
  fun K => (He.Fa.glo "are_rows").ok K,
  fun K => (He.Fa.glo "Machine").ok K,
  fun K => (He.Fa.glo "Writer").ok K,
  fun K => (He.Fa.glo "Reader").ok K,
  (fun K => ["Machine", "Writer", "Reader"].all fun x => (He.Fa.cls x).ok K && (He.Fa.noat x "kinds").ok K),
  fun K => (He.Fa.glo "inputs_of").ok K,
  fun K => (He.Fa.free "range").ok K,
  (fun K => ["Machine", "Writer", "Reader"].all fun x => (He.Fa.cls x).ok K && propB x "Machine" "data" K),
  (fun K => ["Machine", "Writer", "Reader"].all fun x => (He.Fa.cls x).ok K && (He.Fa.noat x "letters").ok K),
  fun K => (He.Fa.glo "check_same_kind").ok K,
  fun K => (He.Fa.glo "Mismatch").ok K,
  fun K => (He.Fa.exc "Mismatch").ok K,
  (fun K => ["Machine", "Writer", "Reader"].all fun x => (He.Fa.cls x).ok K && propB x "Machine" "signs" K),
  fun K => (He.Fa.glo "steps_of").ok K,
  (fun K => ["Machine", "Writer", "Reader"].all fun x => (He.Fa.cls x).ok K && (He.Fa.noat x "table").ok K)]
def ex2 : List (Fg → Bool) := [fun K => (He.Fa.glo "UnknownState").ok K,
  fun K => (He.Fa.exc "UnknownState").ok K,
  (fun K => (He.Fa.cls "Writer").ok K && methB "Writer" "Machine" "check_state" K),
  fun K => (He.Fa.glo "InvalidInput").ok K,
  fun K => (He.Fa.exc "InvalidInput").ok K,
  (fun K => (He.Fa.cls "Writer").ok K && methB "Writer" "Writer" "place" K),
  (fun K => (He.Fa.cls "Reader").ok K && methB "Reader" "Machine" "check_state" K),
  fun K => (He.Fa.glo "InvalidSign").ok K,
  fun K => (He.Fa.exc "InvalidSign").ok K,
  (fun K => (He.Fa.cls "Reader").ok K && methB "Reader" "Reader" "place" K),
  fun K => (He.Fa.glo "search").ok K,
  (fun K => (He.Fa.cls "Writer").ok K && methB "Writer" "Writer" "step" K),
  (fun K => (He.Fa.cls "Reader").ok K && methB "Reader" "Reader" "step" K),
  fun K => (He.Fa.glo "apart").ok K,
  fun K => (He.Fa.glo "together").ok K,
  fun K => (He.Fa.free "sorted").ok K,
  fun K => (He.Fa.glo "is_pair").ok K,
  fun K => (He.Fa.glo "is_together").ok K,
  fun K => (He.Fa.glo "_law_word").ok K,
  fun K => (He.Fa.glo "_law_draw").ok K]
def ex3 : List (Fg → Bool) := [fun K => (He.Fa.glo "_law_told_some").ok K,
  fun K => (He.Fa.glo "_law_writer").ok K,
  fun K => (He.Fa.glo "_law_reader").ok K,
  codeB ("Writer", some "__init__"),
  fun K => (He.Fa.glo "InvalidWriter").ok K,
  fun K => (He.Fa.exc "InvalidWriter").ok K,
  fun K => (He.Fa.int "MAX_WRITER" (24)).ok K,
  clfB "Machine" "__init__",
  fun K => (He.Fa.glo "_law_writer_of").ok K,
  mkrB "Writer" "Writer",
  codeB ("Reader", some "__init__"),
  fun K => (He.Fa.glo "InvalidReader").ok K,
  fun K => (He.Fa.exc "InvalidReader").ok K,
  fun K => (He.Fa.int "MAX_READER" (40)).ok K,
  fun K => (He.Fa.glo "_law_reader_of").ok K,
  mkrB "Reader" "Reader",
  fun K => (He.Fa.glo "_law_plain").ok K,
  fun K => (He.Fa.glo "_law_escaped").ok K,
  fun K => (He.Fa.glo "_law_late").ok K,
  fun K => (He.Fa.glo "_law_doubled").ok K]
def ex4 : List (Fg → Bool) := [fun K => (He.Fa.glo "_law_turning").ok K,
  fun K => (He.Fa.glo "_law_changed").ok K,
  fun K => (He.Fa.glo "_law_duo").ok K,
  fun K => (He.Fa.free "max").ok K,
  fun K => (He.Fa.glo "_law_error").ok K,
  fun K => (He.Fa.glo "LineError").ok K,
  fun K => (He.Fa.glo "InvalidPair").ok K,
  (fun K => xmRows_2.all fun r => exmB cTab "LineError" r K),
  fun K => (He.Fa.glo "law").ok K,
  fun K => (He.Fa.glo "_law_pen").ok K,
  fun K => (He.Fa.glo "_law_next").ok K]
def exL : List (Fg → Bool) := ex0 ++ ex1 ++ ex2 ++ ex3 ++ ex4
theorem facts {P : Program} {w : World} {K : Fg} {h base : Heap} {mg : Str → Option Value} (c : SaysU pds tfL exL h K) (X : K.In h) (Gm : h.Ns mainGlobals mg) (TBt : ∀ p ∈ tfL, TabB base mg (He.cT K p).1 (He.cT K p).2) : Fx P w K mg base (GG K) (fF K) (cdF K) (tbF K) (fun i => fdAt K (fF K i)) :=
  { hk := rfl
    TF := tyF_of (tb := cTab) rfl (List.all_eq_true.mp (c.at 0))
    TB := tbF_of (tb := cTab) rfl (List.all_eq_true.mp (c.at 1))
    gf := ⟨fun _ _ _ _ => Iff.rfl⟩
    F_12 := c.df 0 (d := pd_0)
    b_12 := Fun.binds (x := "is_integer") (qual := "is_integer") (st := top 12) (c.df 0 (d := pd_0)) (ps := ["thing"]) fun _ _ _ _ _ _ us hl => match us, hl with | [_], _ => rfl
    g_12 := He.glo_ok X Gm (c.at 3)
    n_isinstance := He.free_ok X Gm (c.at 4)
    n_bool := He.free_ok X Gm (c.at 5)
    n_int := He.free_ok X Gm (c.at 6)
    F_13 := c.df 1 (d := pd_1)
    b_13 := Fun.binds (x := "is_below") (qual := "is_below") (st := top 13) (c.df 1 (d := pd_1)) (ps := ["thing", "count"]) fun _ _ _ _ _ _ us hl => match us, hl with | [_, _], _ => rfl
    g_13 := He.glo_ok X Gm (c.at 7)
    F_14 := c.df 2 (d := pd_2)
    b_14 := Fun.binds (x := "is_word") (qual := "is_word") (st := top 14) (c.df 2 (d := pd_2)) (ps := ["thing", "signs"]) fun _ _ _ _ _ _ us hl => match us, hl with | [_, _], _ => rfl
    g_14 := He.glo_ok X Gm (c.at 8)
    n_all := He.free_ok X Gm (c.at 9)
    n_len := He.free_ok X Gm (c.at 10)
    k_MAX_WORD := He.int_ok X Gm (c.at 11)
    n_tuple := He.free_ok X Gm (c.at 12)
    F_24 := c.df 3 (d := pd_3)
    b_24 := Fun.binds (x := "are_numbers") (qual := "are_numbers") (st := top 24) (c.df 3 (d := pd_3)) (ps := ["signs", "data"]) fun _ _ _ _ _ _ us hl => match us, hl with | [_, _], _ => rfl
    g_24 := He.glo_ok X Gm (c.at 13)
    k_MAX_DATA := He.int_ok X Gm (c.at 14)
    k_MIN_SIGNS := He.int_ok X Gm (c.at 15)
    k_MAX_SIGNS := He.int_ok X Gm (c.at 16)
    F_25 := c.df 4 (d := pd_4)
    b_25 := Fun.binds (x := "is_input") (qual := "is_input") (st := top 25) (c.df 4 (d := pd_4)) (ps := ["thing", "data"]) fun _ _ _ _ _ _ us hl => match us, hl with | [_, _], _ => rfl
    g_25 := He.glo_ok X Gm (c.at 17)
    k_END := He.int_ok X Gm (c.at 18)
    F_26 := c.df 5 (d := pd_5)
    b_26 := Fun.binds (x := "are_events") (qual := "are_events") (st := top 26) (c.df 5 (d := pd_5)) (ps := ["thing", "data"]) fun _ _ _ _ _ _ us hl => match us, hl with | [_, _], _ => rfl
    g_26 := He.glo_ok X Gm (c.at 19)
    k_MAX_EVENTS := He.int_ok X Gm (c.at 20)
    k_DROP := He.int_ok X Gm (c.at 21)
    F_27 := c.df 6 (d := pd_6)
    b_27 := Fun.binds (x := "is_move") (qual := "is_move") (st := top 27) (c.df 6 (d := pd_6)) (ps := ["thing", "fits", "states"]) fun _ _ _ _ _ _ us hl => match us, hl with | [_, _, _], _ => rfl
    g_27 := He.glo_ok X Gm (c.at 22)
    F_28 := c.df 7 (d := pd_7)
    b_28 := Fun.binds (x := "is_row") (qual := "is_row") (st := top 28) (c.df 7 (d := pd_7)) (ps := ["thing", "fits", "moves", "states"]) fun _ _ _ _ _ _ us hl => match us, hl with | [_, _, _, _], _ => rfl
    g_28 := He.glo_ok X Gm (c.at 23)
    n_list := He.free_ok X Gm (c.at 24)
    F_29 := c.df 8 (d := pd_8)
    b_29 := Fun.binds (x := "are_rows") (qual := "are_rows") (st := top 29) (c.df 8 (d := pd_8)) (ps := ["thing", "fits", "moves", "most"]) fun _ _ _ _ _ _ us hl => match us, hl with | [_, _, _, _], _ => rfl
    g_29 := He.glo_ok X Gm (c.at 25)
    F_30002 := c.df 9 (d := pd_9)
    b_30002 := Fun.binds (x := "data") (qual := "Machine.data") (st := (C8.clsBody (top 30)).getD 2 (.Pass ⟨0, 0, 0, 0⟩)) (c.df 9 (d := pd_9)) (ps := ["self"]) fun _ _ _ _ _ _ us hl => match us, hl with | [_], _ => rfl
    g_30 := He.glo_ok X Gm (c.at 26)
    a_30 := rfl
    g_31 := He.glo_ok X Gm (c.at 27)
    a_31 := rfl
    g_32 := He.glo_ok X Gm (c.at 28)
    a_32 := rfl
    fl_kinds := fld_of (tb := cTab) (xs := ["Machine", "Writer", "Reader"]) rfl (by decide) (c.at 29)
    F_33 := c.df 10 (d := pd_10)
    b_33 := Fun.binds (x := "inputs_of") (qual := "inputs_of") (st := top 33) (c.df 10 (d := pd_10)) (ps := ["machine"]) fun _ _ _ _ _ _ us hl => match us, hl with | [_], _ => rfl
    g_33 := He.glo_ok X Gm (c.at 30)
    n_range := He.free_ok X Gm (c.at 31)
    p_data := prop_of (tb := cTab) (xs := ["Machine", "Writer", "Reader"]) rfl (by decide) (c.at 32)
    F_30001 := c.df 11 (d := pd_11)
    b_30001 := Fun.binds (x := "signs") (qual := "Machine.signs") (st := (C8.clsBody (top 30)).getD 1 (.Pass ⟨0, 0, 0, 0⟩)) (c.df 11 (d := pd_11)) (ps := ["self"]) fun _ _ _ _ _ _ us hl => match us, hl with | [_], _ => rfl
    fl_letters := fld_of (tb := cTab) (xs := ["Machine", "Writer", "Reader"]) rfl (by decide) (c.at 33)
    F_35 := c.df 12 (d := pd_12)
    b_35 := Fun.binds (x := "check_same_kind") (qual := "check_same_kind") (st := top 35) (c.df 12 (d := pd_12)) (ps := ["machine", "other"]) fun _ _ _ _ _ _ us hl => match us, hl with | [_, _], _ => rfl
    g_35 := He.glo_ok X Gm (c.at 34)
    g_8 := He.glo_ok X Gm (c.at 35)
    a_8 := rfl
    r_8 := raiC_of (c.at 36)
    p_signs := prop_of (tb := cTab) (xs := ["Machine", "Writer", "Reader"]) rfl (by decide) (c.at 37)
    F_36 := c.df 13 (d := pd_13)
    b_36 := Fun.binds (x := "steps_of") (qual := "steps_of") (st := top 36) (c.df 13 (d := pd_13)) (ps := ["machine"]) fun _ _ _ _ _ _ us hl => match us, hl with | [_], _ => rfl
    g_36 := He.glo_ok X Gm (c.at 38)
    F_30005 := c.df 14 (d := pd_14)
    b_30005 := Fun.binds (x := "check_state") (qual := "Machine.check_state") (st := (C8.clsBody (top 30)).getD 5 (.Pass ⟨0, 0, 0, 0⟩)) (c.df 14 (d := pd_14)) (ps := ["self", "state"]) fun _ _ _ _ _ _ us hl => match us, hl with | [_, _], _ => rfl
    fl_table := fld_of (tb := cTab) (xs := ["Machine", "Writer", "Reader"]) rfl (by decide) (c.at 39)
    g_5 := He.glo_ok X Gm (c.at 40)
    a_5 := rfl
    r_5 := raiC_of (c.at 41)
    F_31001 := c.df 15 (d := pd_15)
    b_31001 := Fun.binds (x := "place") (qual := "Writer.place") (st := (C8.clsBody (top 31)).getD 1 (.Pass ⟨0, 0, 0, 0⟩)) (c.df 15 (d := pd_15)) (ps := ["self", "state", "thing"]) fun _ _ _ _ _ _ us hl => match us, hl with | [_, _, _], _ => rfl
    m_31_check_state := methC_ok (c.at 42)
    g_6 := He.glo_ok X Gm (c.at 43)
    a_6 := rfl
    r_6 := raiC_of (c.at 44)
    F_31002 := c.df 16 (d := pd_16)
    b_31002 := Fun.binds (x := "step") (qual := "Writer.step") (st := (C8.clsBody (top 31)).getD 2 (.Pass ⟨0, 0, 0, 0⟩)) (c.df 16 (d := pd_16)) (ps := ["self", "state", "thing"]) fun _ _ _ _ _ _ us hl => match us, hl with | [_, _, _], _ => rfl
    m_31_place := methC_ok (c.at 45)
    F_32001 := c.df 17 (d := pd_17)
    b_32001 := Fun.binds (x := "place") (qual := "Reader.place") (st := (C8.clsBody (top 32)).getD 1 (.Pass ⟨0, 0, 0, 0⟩)) (c.df 17 (d := pd_17)) (ps := ["self", "state", "thing"]) fun _ _ _ _ _ _ us hl => match us, hl with | [_, _, _], _ => rfl
    m_32_check_state := methC_ok (c.at 46)
    g_7 := He.glo_ok X Gm (c.at 47)
    a_7 := rfl
    r_7 := raiC_of (c.at 48)
    F_32002 := c.df 18 (d := pd_18)
    b_32002 := Fun.binds (x := "step") (qual := "Reader.step") (st := (C8.clsBody (top 32)).getD 2 (.Pass ⟨0, 0, 0, 0⟩)) (c.df 18 (d := pd_18)) (ps := ["self", "state", "thing"]) fun _ _ _ _ _ _ us hl => match us, hl with | [_, _, _], _ => rfl
    m_32_place := methC_ok (c.at 49)
    F_37 := c.df 19 (d := pd_19)
    b_37 := Fun.binds (x := "search") (qual := "search") (st := top 37) (c.df 19 (d := pd_19)) (ps := ["machine", "other"]) fun _ _ _ _ _ _ us hl => match us, hl with | [_, _], _ => rfl
    g_37 := He.glo_ok X Gm (c.at 50)
    m_31_step := methC_ok (c.at 51)
    m_32_step := methC_ok (c.at 52)
    F_38 := c.df 20 (d := pd_20)
    b_38 := Fun.binds (x := "apart") (qual := "apart") (st := top 38) (c.df 20 (d := pd_20)) (ps := ["machine", "other"]) fun _ _ _ _ _ _ us hl => match us, hl with | [_, _], _ => rfl
    g_38 := He.glo_ok X Gm (c.at 53)
    F_39 := c.df 21 (d := pd_21)
    b_39 := Fun.binds (x := "together") (qual := "together") (st := top 39) (c.df 21 (d := pd_21)) (ps := ["machine", "other"]) fun _ _ _ _ _ _ us hl => match us, hl with | [_, _], _ => rfl
    g_39 := He.glo_ok X Gm (c.at 54)
    n_sorted := He.free_ok X Gm (c.at 55)
    F_40 := c.df 22 (d := pd_22)
    b_40 := Fun.binds (x := "is_pair") (qual := "is_pair") (st := top 40) (c.df 22 (d := pd_22)) (ps := ["machine", "other", "thing"]) fun _ _ _ _ _ _ us hl => match us, hl with | [_, _, _], _ => rfl
    g_40 := He.glo_ok X Gm (c.at 56)
    F_41 := c.df 23 (d := pd_23)
    b_41 := Fun.binds (x := "is_together") (qual := "is_together") (st := top 41) (c.df 23 (d := pd_23)) (ps := ["machine", "other", "thing"]) fun _ _ _ _ _ _ us hl => match us, hl with | [_, _, _], _ => rfl
    g_41 := He.glo_ok X Gm (c.at 57)
    F_46 := c.df 24 (d := pd_24)
    b_46 := Fun.binds (x := "_law_word") (qual := "_law_word") (st := top 46) (c.df 24 (d := pd_24)) (ps := ["_law_pen_here", "_law_many", "_law_most"]) fun _ _ _ _ _ _ us hl => match us, hl with | [_, _, _], _ => rfl
    g_46 := He.glo_ok X Gm (c.at 58)
    F_45 := c.df 25 (d := pd_25)
    b_45 := Fun.binds (x := "_law_draw") (qual := "_law_draw") (st := top 45) (c.df 25 (d := pd_25)) (ps := ["_law_pen_here", "_law_under"]) fun _ _ _ _ _ _ us hl => match us, hl with | [_, _], _ => rfl
    g_45 := He.glo_ok X Gm (c.at 59)
    F_47 := c.df 26 (d := pd_26)
    b_47 := Fun.binds (x := "_law_told_some") (qual := "_law_told_some") (st := top 47) (c.df 26 (d := pd_26)) (ps := ["_law_pen_here", "_law_kinds", "_law_most"]) fun _ _ _ _ _ _ us hl => match us, hl with | [_, _, _], _ => rfl
    g_47 := He.glo_ok X Gm (c.at 60)
    F_48 := c.df 27 (d := pd_27)
    b_48 := Fun.binds (x := "_law_writer") (qual := "_law_writer") (st := top 48) (c.df 27 (d := pd_27)) (ps := ["_law_pen_here", "_law_many", "_law_kinds", "_law_most", "_law_longest_word"]) fun _ _ _ _ _ _ us hl => match us, hl with | [_, _, _, _, _], _ => rfl
    g_48 := He.glo_ok X Gm (c.at 61)
    F_49 := c.df 28 (d := pd_28)
    b_49 := Fun.binds (x := "_law_reader") (qual := "_law_reader") (st := top 49) (c.df 28 (d := pd_28)) (ps := ["_law_pen_here", "_law_many", "_law_kinds", "_law_most", "_law_most_told"]) fun _ _ _ _ _ _ us hl => match us, hl with | [_, _, _, _, _], _ => rfl
    g_49 := He.glo_ok X Gm (c.at 62)
    F_30000 := c.df 29 (d := pd_29)
    b_30000 := Fun.binds (x := "__init__") (qual := "Machine.__init__") (st := (C8.clsBody (top 30)).getD 0 (.Pass ⟨0, 0, 0, 0⟩)) (c.df 29 (d := pd_29)) (ps := ["self", "signs", "data", "rows"]) fun _ _ _ _ _ _ us hl => match us, hl with | [_, _, _, _], _ => rfl
    F_31000 := c.df 30 (d := pd_30)
    b_31000 := Fun.binds (x := "__init__") (qual := "Writer.__init__") (st := (C8.clsBody (top 31)).getD 0 (.Pass ⟨0, 0, 0, 0⟩)) (c.df 30 (d := pd_30)) (ps := ["self", "signs", "data", "rows"]) fun _ _ _ _ _ _ us hl => match us, hl with | [_, _, _, _], _ => rfl
    hc_31000 := codeB_ok (p := ("Writer", some "__init__")) (c.at 63)
    TB_31000 := TBt ("Writer", some "__init__") (by simp [tfL])
    tm_31000 := (by simp [GG, GT, tbF])
    tu_31000 := tu_nd (T := GT K) (of_decide_eq_true (c.at 2)) (q := (tbF K 31000, nm_31000)) (by simp [GT, tbF])
    g_3 := He.glo_ok X Gm (c.at 64)
    a_3 := rfl
    r_3 := raiC_of (c.at 65)
    k_MAX_WRITER := He.int_ok X Gm (c.at 66)
    cr_30 := clfB_ok (x := "Machine") (m := "__init__") (c.at 67)
    F_50 := c.df 31 (d := pd_31)
    b_50 := Fun.binds (x := "_law_writer_of") (qual := "_law_writer_of") (st := top 50) (c.df 31 (d := pd_31)) (ps := ["_law_machine"]) fun _ _ _ _ _ _ us hl => match us, hl with | [_], _ => rfl
    g_50 := He.glo_ok X Gm (c.at 68)
    mk_31 := mkrB_ok (c.at 69)
    F_32000 := c.df 32 (d := pd_32)
    b_32000 := Fun.binds (x := "__init__") (qual := "Reader.__init__") (st := (C8.clsBody (top 32)).getD 0 (.Pass ⟨0, 0, 0, 0⟩)) (c.df 32 (d := pd_32)) (ps := ["self", "signs", "data", "rows"]) fun _ _ _ _ _ _ us hl => match us, hl with | [_, _, _, _], _ => rfl
    hc_32000 := codeB_ok (p := ("Reader", some "__init__")) (c.at 70)
    TB_32000 := TBt ("Reader", some "__init__") (by simp [tfL])
    tm_32000 := (by simp [GG, GT, tbF])
    tu_32000 := tu_nd (T := GT K) (of_decide_eq_true (c.at 2)) (q := (tbF K 32000, nm_32000)) (by simp [GT, tbF])
    g_4 := He.glo_ok X Gm (c.at 71)
    a_4 := rfl
    r_4 := raiC_of (c.at 72)
    k_MAX_READER := He.int_ok X Gm (c.at 73)
    F_51 := c.df 33 (d := pd_33)
    b_51 := Fun.binds (x := "_law_reader_of") (qual := "_law_reader_of") (st := top 51) (c.df 33 (d := pd_33)) (ps := ["_law_machine"]) fun _ _ _ _ _ _ us hl => match us, hl with | [_], _ => rfl
    g_51 := He.glo_ok X Gm (c.at 74)
    mk_32 := mkrB_ok (c.at 75)
    F_52 := c.df 34 (d := pd_34)
    b_52 := Fun.binds (x := "_law_plain") (qual := "_law_plain") (st := top 52) (c.df 34 (d := pd_34)) (ps := ["_law_kinds"]) fun _ _ _ _ _ _ us hl => match us, hl with | [_], _ => rfl
    g_52 := He.glo_ok X Gm (c.at 76)
    F_53 := c.df 35 (d := pd_35)
    b_53 := Fun.binds (x := "_law_escaped") (qual := "_law_escaped") (st := top 53) (c.df 35 (d := pd_35)) (ps := ["_law_kinds"]) fun _ _ _ _ _ _ us hl => match us, hl with | [_], _ => rfl
    g_53 := He.glo_ok X Gm (c.at 77)
    F_54 := c.df 36 (d := pd_36)
    b_54 := Fun.binds (x := "_law_late") (qual := "_law_late") (st := top 54) (c.df 36 (d := pd_36)) (ps := ["_law_kinds"]) fun _ _ _ _ _ _ us hl => match us, hl with | [_], _ => rfl
    g_54 := He.glo_ok X Gm (c.at 78)
    F_55 := c.df 37 (d := pd_37)
    b_55 := Fun.binds (x := "_law_doubled") (qual := "_law_doubled") (st := top 55) (c.df 37 (d := pd_37)) (ps := ["_law_kinds"]) fun _ _ _ _ _ _ us hl => match us, hl with | [_], _ => rfl
    g_55 := He.glo_ok X Gm (c.at 79)
    F_56 := c.df 38 (d := pd_38)
    b_56 := Fun.binds (x := "_law_turning") (qual := "_law_turning") (st := top 56) (c.df 38 (d := pd_38)) (ps := ["_law_kinds"]) fun _ _ _ _ _ _ us hl => match us, hl with | [_], _ => rfl
    g_56 := He.glo_ok X Gm (c.at 80)
    F_57 := c.df 39 (d := pd_39)
    b_57 := Fun.binds (x := "_law_changed") (qual := "_law_changed") (st := top 57) (c.df 39 (d := pd_39)) (ps := ["_law_pen_here", "_law_duo_here"]) fun _ _ _ _ _ _ us hl => match us, hl with | [_, _], _ => rfl
    g_57 := He.glo_ok X Gm (c.at 81)
    F_58 := c.df 40 (d := pd_40)
    b_58 := Fun.binds (x := "_law_duo") (qual := "_law_duo") (st := top 58) (c.df 40 (d := pd_40)) (ps := ["_law_pen_here", "_law_most_kinds"]) fun _ _ _ _ _ _ us hl => match us, hl with | [_, _], _ => rfl
    g_58 := He.glo_ok X Gm (c.at 82)
    n_max := He.free_ok X Gm (c.at 83)
    F_59 := c.df 41 (d := pd_41)
    b_59 := Fun.binds (x := "_law_error") (qual := "_law_error") (st := top 59) (c.df 41 (d := pd_41)) (ps := ["_law_one", "_law_two", "_law_road"]) fun _ _ _ _ _ _ us hl => match us, hl with | [_, _, _], _ => rfl
    g_59 := He.glo_ok X Gm (c.at 84)
    g_2 := He.glo_ok X Gm (c.at 85)
    a_2 := rfl
    g_9 := He.glo_ok X Gm (c.at 86)
    a_9 := rfl
    x_2 := exm_of (tb := cTab) rfl (c.at 87)
    F_60 := c.df 42 (d := pd_42)
    b_60 := Fun.binds (x := "law") (qual := "law") (st := top 60) (c.df 42 (d := pd_42)) (ps := ["_law_script"]) fun _ _ _ _ _ _ us hl => match us, hl with | [_], _ => rfl
    g_60 := He.glo_ok X Gm (c.at 88)
    F_43 := c.df 43 (d := pd_43)
    b_43 := Fun.binds (x := "_law_pen") (qual := "_law_pen") (st := top 43) (c.df 43 (d := pd_43)) (ps := ["_law_script"]) fun _ _ _ _ _ _ us hl => match us, hl with | [_], _ => rfl
    g_43 := He.glo_ok X Gm (c.at 89)
    F_44 := c.df 44 (d := pd_44)
    b_44 := Fun.binds (x := "_law_next") (qual := "_law_next") (st := top 44) (c.df 44 (d := pd_44)) (ps := ["_law_pen_here"]) fun _ _ _ _ _ _ us hl => match us, hl with | [_], _ => rfl
    g_44 := He.glo_ok X Gm (c.at 90)
    TP := ⟨He.free_ok X Gm (c.at 24), He.free_ok X Gm (c.at 6), He.free_ok X Gm (c.at 10)⟩ }
abbrev R : PySem.W.OpenRow := PySem.W.OpenLaw.row PySem.Challenge.rw_stepsagain_k47_errors_of_the_same
abbrev hk : PySem.W.Hook := hookU 6 pds tfL exL
def ob (s : PySem.W.SharedT) : List FSig × Bool := obsU 6 pds tfL exL (HandSHeadRun.getT s)
theorem ob_eq (s : PySem.W.SharedT) : ob s = hk.obs s.abs := obsU_eq (HandSHeadRun.getT_eq s)
def nms0 : List Str := ["_wall", "LineError", "InvalidWriter", "InvalidReader", "UnknownState", "InvalidInput", "InvalidSign", "Mismatch", "InvalidPair", "MAX_WORD", "is_integer", "is_below", "is_word", "MIN_SIGNS", "MAX_SIGNS", "MAX_DATA", "MAX_WRITER", "MAX_READER", "MAX_EVENTS", "END", "DROP", "are_numbers", "is_input", "are_events", "is_move", "is_row", "are_rows", "Machine", "Writer", "Reader"]
def nms1 : List Str := ["inputs_of", "check_same_kind", "steps_of", "search", "apart", "together", "is_pair", "is_together", "_law_pen", "_law_next", "_law_draw", "_law_word", "_law_told_some", "_law_writer", "_law_reader", "_law_writer_of", "_law_reader_of", "_law_plain", "_law_escaped", "_law_late", "_law_doubled", "_law_turning", "_law_changed", "_law_duo", "_law_error"]
def nms : List Str := nms0 ++ nms1
theorem trip {α β γ δ : Type} {o : Option α} {f : α → β} {g : α → γ} {h : α → δ} {a : β} {b : γ} {c : δ} (h1 : o.map f = some a) (h2 : o.map g = some b) (h3 : o.map h = some c) : o.map (fun s => (f s, g s, h s)) = some (a, b, c) := by
  cases o with
  | none => cases h1
  | some s => cases h1; cases h2; cases h3; rfl
open PySem PySem.W PySem.Calls PyProof.Rows HandSHeadRun in
theorem run1 (w : World) (os : OsState) : (HandSHeadRun.endF (HandSHeadRun.stepQ (HandSHeadRun.denQ HandSHeadRun.tabQ) R.prog w) 20000 R.prog w os).map (fun s => looksF R.prog (boot_heap w.params) s.abs) = some true := by
  kernel_rfl
open PySem PySem.W PySem.Calls PyProof.Rows HandSHeadRun in
theorem run2 (w : World) (os : OsState) : (HandSHeadRun.endF (HandSHeadRun.stepQ (HandSHeadRun.denQ HandSHeadRun.tabQ) R.prog w) 20000 R.prog w os).map (fun s => seenQ (PySem.W.view R.prog [60]) nms (importedModules R.prog.main.body) (fun s => xlAt (PySem.W.view R.prog [60]) [] s && recOk R.toRowW.records s) s.abs) = some (openGood (PySem.W.view R.prog [60]) nms) := by
  kernel_rfl
open PySem PySem.W PySem.Calls PyProof.Rows HandSHeadRun in
theorem run3 (w : World) (os : OsState) : (HandSHeadRun.endF (HandSHeadRun.stepQ (HandSHeadRun.denQ HandSHeadRun.tabQ) R.prog w) 20000 R.prog w os).map ob = some (hk.val w) := by
  kernel_rfl
theorem run (w : World) : HandSHeadRun.RunEq R (PySem.W.view R.prog [60]) hk ob 20000 nms w := fun os => trip (run1 w os) (run2 w os) (run3 w os)
theorem lawG {w : World} {h : Heap} {mg : Str → Option Value} {fa : Addr} (hw : lawOk N_60.length 1 b_60.1) (Y : hk.says w h) (Gm : h.Ns mainGlobals mg) (hmg : mg "law" = some (.ref fa)) : LawG (PySem.Challenge.rw_stepsagain_k47_errors_of_the_same) w 11 mg fa h := by
  obtain ⟨K, KX, c⟩ := Y
  have e := hmg.symm.trans (He.glo_ok KX Gm (c.at 88))
  cases e
  refine ⟨GG K, fdAt K (He.ga K "law"), tfL.map (He.cT K), KX, fun p hp => ?_, fun p hp => ?_, fun p hp => ?_, fun s u => ?_, fun p hp => ?_, fun base Kb Gb TBt => ?_⟩
  · obtain ⟨q, hq, rfl⟩ := List.mem_map.mp hp
    exact c.empty q hq
  · obtain ⟨q, hq, rfl⟩ := List.mem_map.mp hp
    exact c.out q hq
  · obtain ⟨q, hq, rfl⟩ := List.mem_map.mp hp
    exact PySem.W.codeHd_of_K KX (c.hd q hq)
  · obtain ⟨oc, od, kV, doc, pm, an, cdv, ct, osl, e1, lk, hcd⟩ := (c.df 42 (d := pd_42)).ex
    have e2 : fdAt K (He.ga K "law") = _ := e1
    rw [e2]
    exact .of_eq rfl
  · have e : (GT K).map (·.1) = (tfL.map (He.cT K)).map (·.2) := by rfl
    have m : p.1 ∈ (GT K).map (·.1) := List.mem_map_of_mem hp
    rw [e] at m
    exact m
  · exact c_60 hw (facts c KX Gm fun p hp => TBt _ (List.mem_map_of_mem hp))
theorem law_def : (HandSHeadRun.topDef R.prog 60).name = ("law" : Str) := by kernel_rfl
theorem holds (hw : lawOk N_60.length 1 b_60.1) : PySem.Challenge.rw_stepsagain_k47_errors_of_the_same.Holds := by
  open PySem.W PySem.Calls in
  w_on; o_law
  refine HandSHeadRun.head_any (r := R) (q := PySem.W.view R.prog [60]) (H := hk) (ob := ob) (M := 20000) (loose := nms) (d := HandSHeadRun.topDef R.prog 60) (kwd := []) ob_eq
    (by kernel_rfl) (fun s => by kernel_rfl) run (by kernel_rfl) (by kernel_rfl) (by kernel_rfl) (by rfl) (by first | assumption | decide +kernel) (by decide +kernel) ⟨rfl, rfl, rfl, rfl, rfl, by decide +kernel⟩ ?hw ?hc
  case hw => w_witness2
  case hc =>
    refine walkG (l := PySem.Challenge.rw_stepsagain_k47_errors_of_the_same) (k := 11) rfl (by kernel_rfl) ⟨rfl, by decide, by decide⟩ ?F
    intro w mg fa h Y Gm hmg0
    rw [law_def] at hmg0
    exact lawG hw Y Gm hmg0
end Gx
set_option Elab.async false
set_option linter.all false
set_option maxRecDepth 100000
set_option maxHeartbeats 2000000
namespace Gx
open PySem L2 Stp NdefX LamX Pu
open PyProof.Rows hiding St

/-! the tests of words, inputs, moves -/
theorem isi_int {d : D} (h : kd d = true) : isiF kTb [d, .ty "int"] = .ret (.bl (isIntD d)) := by
  cases d <;> first | (cases h; done) | kernel_rfl
theorem isi_bool {d : D} (h : kd d = true) : isiF kTb [d, .ty "bool"] = .ret (.bl (isBoolD d)) := by
  cases d <;> first | (cases h; done) | kernel_rfl
theorem isi_tup {d : D} (h : kd d = true) : isiF kTb [d, .ty "tuple"] = .ret (.bl (isTupD d)) := by
  cases d <;> first | (cases h; done) | kernel_rfl
theorem isi_lst {d : D} (h : kd d = true) : isiF kTb [d, .ty "list"] = .ret (.bl (isLstD d)) := by
  cases d <;> first | (cases h; done) | kernel_rfl
theorem e_isint {d : D} (h : kd d = true) : c_12.1 [d] = .ret (.bl (integerB d)) := by
  delta c_12
  dsimp only
  simp [startE, N_12, isi_int h, isi_bool h]
  cases d <;> simp [isIntD, isBoolD, integerB, notD]
theorem e_below {d : D} {k : Int} (h : kd d = true) : c_13.1 [d, .int k] = .ret (.bl (rangeB 0 k d)) := by
  delta c_13
  dsimp only
  simp [startE, N_13, e_isint h]
  cases d <;> simp [integerB, rangeB]
theorem e_input {d : D} {k : Int} (h : kd d = true) : c_25.1 [d, .int k] = .ret (.bl (rangeB (-1) k d)) := by
  delta c_25
  dsimp only
  simp [startE, N_25, e_isint h]
  cases d <;> simp [integerB, rangeB]
theorem e_nums {s d : D} (h : kd s = true) (h2 : kd d = true) : c_24.1 [s, d] = .ret (.bl (numsB s d)) := by
  delta c_24
  dsimp only
  simp [startE, N_24, e_isint h, e_isint h2]
  cases s <;> cases d <;> simp [integerB, rangeB, numsB]
theorem e_word {d : D} {k : Int} (h : okD d = true) : c_14.1 [d, .int k] = .ret (.bl (wordB k d)) := by
  delta c_14
  dsimp only
  simp [startE, N_14, isi_tup (okD_kd h)]
  cases d <;> first | (simp [isTupD, wordB, tupItems]; done) | skip
  all_goals
    rename_i xs
    simp at h
    simp [isTupD, wordB, tupItems]
    by_cases hl : (xs.length : Int) ≤ 12
    · rw [grd_pos (by unfold big; omega), compL_map (f := fun x => .bl (rangeB 0 k x)) fun y hy => ⟨_, rfl, rfl, by simp [e_below (okD_kd (okL_iff.mp h y hy))]⟩]
      simp [hl]
    · simp [hl]
theorem e_events {d : D} {k : Int} (h : okD d = true) : c_26.1 [d, .int k] = .ret (.bl (eventsB k d)) := by
  delta c_26
  dsimp only
  simp [startE, N_26, isi_tup (okD_kd h)]
  cases d <;> first | (simp [isTupD, eventsB, tupItems]; done) | skip
  all_goals
    rename_i xs
    simp at h
    simp [isTupD, eventsB, tupItems]
    by_cases hl : (xs.length : Int) ≤ 8
    · rw [grd_pos (by unfold big; omega), compL_map (f := fun x => .bl (rangeB (-2) k x)) fun y hy => ⟨_, rfl, rfl, by simp [e_isint (okD_kd (okL_iff.mp h y hy))]; cases y <;> simp [integerB, rangeB]⟩]
      simp [hl, Int.not_lt.mpr hl]
    · simp [hl, Int.not_le.mp hl]
/-- the lambda that is handed on -/
def FitsL (L : LamL) (fn : D) (fb : D → Bool) : Prop := ∃ id cs, fn = .fn id cs ∧ ∀ d, okD d = true → callV L (.fn id cs) [d] = .ret (.bl (fb d))
theorem e_move {d fn : D} {fb : D → Bool} {n : Int} (hf : FitsL [(1, 1, lc_1.1), (2, 1, lc_2.1)] fn fb) (h : okD d = true) : c_27.1 [d, fn, .int n] = .ret (.bl (moveB fb n d)) := by
  obtain ⟨id, cs, rfl, hf⟩ := hf
  delta c_27
  dsimp only
  simp [startE, N_27, isi_tup (okD_kd h)]
  cases d <;> first | (simp [isTupD, moveB, tupItems]; done) | skip
  all_goals
    rename_i xs
    match xs, h with
    | [], h => simp [isTupD, moveB, tupItems]
    | [a], h => simp [isTupD, moveB, tupItems]
    | [a, b], h =>
      simp at h
      simp [isTupD, moveB, tupItems, callVs, hf a h.1, atI, ixN, e_below (okD_kd h.2)]
    | a :: b :: c :: r, h =>
      have e : ¬ ((r.length : Int) + 1 + 1 + 1 = 2) := by omega
      simp [isTupD, moveB, tupItems, e]
theorem e_row {d fn : D} {fb : D → Bool} {n k : Int} (hf : FitsL [(1, 1, lc_1.1), (2, 1, lc_2.1)] fn fb) (h : okD d = true) (hk : k ≤ 1000) : c_28.1 [d, fn, .int k, .int n] = .ret (.bl (rowB fb k n d)) := by
  delta c_28
  dsimp only
  simp [startE, N_28, isi_lst (okD_kd h)]
  cases d <;> first | (simp [isLstD, rowB]; done) | skip
  rename_i xs
  simp at h
  simp [isLstD, rowB]
  by_cases hl : (xs.length : Int) = k
  · rw [grd_pos (by unfold big; omega), compL_map (f := fun x => .bl (moveB fb n x)) fun y hy => ⟨_, rfl, rfl, by simp [e_move hf (okL_iff.mp h y hy)]⟩]
    simp [hl]
  · simp [hl]
theorem e_rows {d fn : D} {fb : D → Bool} {n k : Int} (hf : FitsL [(1, 1, lc_1.1), (2, 1, lc_2.1)] fn fb) (h : okD d = true) (hk : k ≤ 1000) (hn : n ≤ 1000) : c_29.1 [d, fn, .int k, .int n] = .ret (.bl (rowsB fb k n d)) := by
  delta c_29
  dsimp only
  simp [startE, N_29, isi_lst (okD_kd h)]
  cases d <;> first | (simp [isLstD, rowsB]; done) | skip
  rename_i xs
  simp at h
  simp [isLstD, rowsB]
  by_cases h1 : (1 : Int) ≤ xs.length
  · by_cases h2 : (xs.length : Int) ≤ n
    · rw [grd_pos (by unfold big; omega), compL_map (f := fun x => .bl (rowB fb k xs.length x)) fun y hy => ⟨_, rfl, rfl, by simp [e_row hf (okL_iff.mp h y hy) hk]⟩]
      simp [h1, h2, Int.not_lt.mpr h2]
    · simp [h1, h2]
  · simp [h1]
theorem e_machine {c : Nat} {s d : D} {rs : List D} (hc : c ∈ [0, 1, 2]) (hr : ∀ r ∈ rs, isLstD r = true) (hl : rs.length ≤ big) : c_30000.1 c [] [s, d, .lst rs] = .ret [("letters", s), ("kinds", d), ("table", .lst rs)] := by
  delta c_30000
  dsimp only
  simp at hc
  simp [startI, N_30000, hc]
  rw [grd_pos hl, compL_map (f := id) fun y hy => ⟨_, rfl, rfl, by have := hr y hy; cases y <;> first | (cases this; done) | simp⟩]
  simp
theorem fitsW {many : Int} : FitsL [(1, 1, lc_1.1), (2, 1, lc_2.1)] (.fn 1 [.int many]) (wordB many) := ⟨_, _, rfl, fun d h => by
  simp [callV, LamL.look, plainL, plainD, okD_plain h]
  delta lc_1
  dsimp only
  simp [startE, e_word h]⟩
theorem fitsR {kinds : Int} : FitsL [(1, 1, lc_1.1), (2, 1, lc_2.1)] (.fn 2 [.int kinds]) (eventsB kinds) := ⟨_, _, rfl, fun d h => by
  simp [callV, LamL.look, plainL, plainD, okD_plain h]
  delta lc_2
  dsimp only
  simp [startE, e_events h]⟩
/-- Writer(..), what it says -/
theorem e_winit {many kinds : D} {t : D} (h1 : kd many = true) (h2 : kd kinds = true) (h3 : okD t = true) : c_31000.1 1 [] [many, kinds, t] = match many, kinds with
    | .int m, .int k => if numsB (.int m) (.int k) = true ∧ rowsB (wordB m) (k + 1) 24 t = true then .ret [("letters", .int m), ("kinds", .int k), ("table", t)] else .ex (.exc 101 [])
    | _, _ => .ex (.exc 101 []) := by
  delta c_31000
  dsimp only
  simp [startI, N_31000, e_nums h1 h2, capsD, callL]
  cases many <;> cases kinds <;> first | (simp [numsB]; done) | skip
  rename_i m k
  by_cases hn : numsB (.int m) (.int k) = true
  · have hk : k + 1 ≤ 1000 := by simp [numsB] at hn; omega
    simp [hn, e_rows fitsW h3 hk (by decide : (24 : Int) ≤ 1000), plainR, plainD]
    by_cases ht : rowsB (wordB m) (k + 1) 24 t = true
    · simp [ht]
      cases t <;> first | (simp [rowsB] at ht; done) | skip
      rename_i rs
      rw [e_machine (by decide) (rowsB_lst ht) (by simp [rowsB] at ht; unfold big; omega)]
      simp
    · simp [ht]
  · simp [hn]
theorem e_rinit {many kinds : D} {t : D} (h1 : kd many = true) (h2 : kd kinds = true) (h3 : okD t = true) : c_32000.1 2 [] [many, kinds, t] = match many, kinds with
    | .int m, .int k => if numsB (.int m) (.int k) = true ∧ rowsB (eventsB k) m 40 t = true then .ret [("letters", .int m), ("kinds", .int k), ("table", t)] else .ex (.exc 102 [])
    | _, _ => .ex (.exc 102 []) := by
  delta c_32000
  dsimp only
  simp [startI, N_32000, e_nums h1 h2, capsD, callL]
  cases many <;> cases kinds <;> first | (simp [numsB]; done) | skip
  rename_i m k
  by_cases hn : numsB (.int m) (.int k) = true
  · have hk : m ≤ 1000 := by simp [numsB] at hn; omega
    simp [hn, e_rows fitsR h3 hk (by decide : (40 : Int) ≤ 1000), plainR, plainD]
    by_cases ht : rowsB (eventsB k) m 40 t = true
    · simp [ht]
      cases t <;> first | (simp [rowsB] at ht; done) | skip
      rename_i rs
      rw [e_machine (by decide) (rowsB_lst ht) (by simp [rowsB] at ht; unfold big; omega)]
      simp
    · simp [ht]
  · simp [hn]

end Gx
set_option Elab.async false
set_option linter.all false
set_option maxRecDepth 100000
set_option maxHeartbeats 2000000
namespace Gx
open PySem L2 Stp NdefX LamX Pu
open PyProof.Rows hiding St

/-! making machines -/
theorem e_writer {m : Mch} (h : WOk m) : c_31000.1 1 [] [.int m.many, .int m.kinds, tabD m.rows] = .ret [("letters", .int m.many), ("kinds", .int m.kinds), ("table", tabD m.rows)] := by
  have h2 : rowsB (wordB m.many) (m.kinds + 1) 24 (tabD m.rows) = true := rowsB_ok (most := 24) h.tab fun w h1 h2 => wordB_ok h1 h2
  rw [e_winit rfl rfl (okD_tabD _)]
  simp [numsB_ok h.num, h2]
theorem e_reader {m : Mch} (h : ROk m) : c_32000.1 2 [] [.int m.many, .int m.kinds, tabD m.rows] = .ret [("letters", .int m.many), ("kinds", .int m.kinds), ("table", tabD m.rows)] := by
  have h2 : rowsB (eventsB m.kinds) m.many 40 (tabD m.rows) = true := rowsB_ok (most := 40) h.tab fun w h1 h2 => eventsB_ok h1 h2
  rw [e_rinit rfl rfl (okD_tabD _)]
  simp [numsB_ok h.num, h2]
theorem e_writer_of {m : Mch} (h : WOk m) : c_50.1 [lawD m] = .ret (objD 1 m) := by
  delta c_50
  dsimp only
  simp [startE, N_50, lawD, atI, ixN, e_writer h, objD]
theorem e_reader_of {m : Mch} (h : ROk m) : c_51.1 [lawD m] = .ret (objD 2 m) := by
  delta c_51
  dsimp only
  simp [startE, N_51, lawD, atI, ixN, e_reader h, objD]
theorem e_blankW {a k : Int} {n : Nat} (h1 : 2 ≤ a) (h2 : a ≤ 6) (h3 : 1 ≤ k) (h4 : k ≤ 6) (hn : (n : Int) = k + 1) : c_31000.1 1 [] [.int a, .int k, .lst [.lst (List.replicate n (.tup [.tup [], .int 0]))]] = .ret [("letters", .int a), ("kinds", .int k), ("table", tabD (blank n))] := by
  rw [blank_tab]
  exact e_writer (m := ⟨a, k, blank n⟩) ⟨⟨h1, h2, h3, h4⟩, blank_ok hn (by decide)⟩
theorem e_blankR {a k : Int} {n : Nat} (h1 : 2 ≤ a) (h2 : a ≤ 6) (h3 : 1 ≤ k) (h4 : k ≤ 6) (hn : (n : Int) = a) : c_32000.1 2 [] [.int a, .int k, .lst [.lst (List.replicate n (.tup [.tup [], .int 0]))]] = .ret [("letters", .int a), ("kinds", .int k), ("table", tabD (blank n))] := by
  rw [blank_tab]
  exact e_reader (m := ⟨a, k, blank n⟩) ⟨⟨h1, h2, h3, h4⟩, blank_ok hn (by decide)⟩

end Gx
set_option Elab.async false
set_option linter.all false
set_option maxRecDepth 100000
set_option maxHeartbeats 2000000
namespace Gx
open PySem L2 Stp NdefX LamX Pu
open PyProof.Rows hiding St

/-! drawn words and machines -/
theorem e_draw : c_45.1 = drawF := rfl
theorem d_word {many most : Int} (h1 : 0 < many) (h2 : many < 1000) (h3 : 0 ≤ most) (h4 : most ≤ 100) : Wb 102 (c_46.1 [.pen, .int many, .int most]) (fun _ d => ∃ w, d = .tup (iD w) ∧ (w.length : Int) ≤ most ∧ Within 0 many w) XF := by
  delta c_46
  dsimp only
  simp [startE, N_46, e_draw]
  refine wb_bind (wb_drawF (by omega) (by omega) (by omega) fun i i1 i2 => ?_)
  simp
  refine wb_grd (by omega) (wb_grd (by rw [rngL_len]; unfold big; omega) (wb_bind ((wb_compL 1 (fun _ y => ∃ x, y = .int x ∧ 0 ≤ x ∧ x < many) (by rw [rngL_len]; omega) fun j y hy => ⟨_, rfl, ?_⟩).mono (fun j r _ z => ?_) fun _ _ _ z => z)))
  · simp
    exact wb_drawF (by omega) (by omega) (by omega) fun x x1 x2 => ⟨x, rfl, x1, x2⟩
  · obtain ⟨_, z2, z3⟩ := z
    obtain ⟨w, rfl, hw⟩ := ints_of z3
    refine wb_ret ⟨w, rfl, ?_, hw⟩
    rw [rngL_len, iD_length] at z2
    omega
theorem d_told {kinds most : Int} (h1 : 0 < kinds) (h2 : kinds < 1000) (h3 : 0 ≤ most) (h4 : most ≤ 100) : Wb 102 (c_47.1 [.pen, .int kinds, .int most]) (fun _ d => ∃ w, d = .tup (iD w) ∧ (w.length : Int) ≤ most ∧ Within (-2) kinds w) XF := by
  delta c_47
  dsimp only
  simp [startE, N_47, e_draw]
  refine wb_bind (wb_drawF (by omega) (by omega) (by omega) fun i i1 i2 => ?_)
  simp
  refine wb_grd (by omega) (wb_grd (by rw [rngL_len]; unfold big; omega) (wb_bind ((wb_compL 1 (fun _ y => ∃ x, y = .int x ∧ -2 ≤ x ∧ x < kinds) (by rw [rngL_len]; omega) fun j y hy => ⟨_, rfl, ?_⟩).mono (fun j r _ z => ?_) fun _ _ _ z => z)))
  · simp
    exact wb_bind (wb_drawF (by omega) (by omega) (by omega) fun x x1 x2 => wb_ret ⟨x - 2, rfl, by omega, by omega⟩)
  · obtain ⟨_, z2, z3⟩ := z
    obtain ⟨w, rfl, hw⟩ := ints_of z3
    refine wb_ret ⟨w, rfl, ?_, hw⟩
    rw [rngL_len, iD_length] at z2
    omega
theorem d_writer {many kinds most lng : Int} (h1 : 2 ≤ many) (h2 : many ≤ 6) (k1 : 1 ≤ kinds) (k2 : kinds ≤ 6) (h3 : 1 ≤ most) (h4 : most ≤ 24) (h5 : 0 ≤ lng) (h6 : lng ≤ 12) : Wb 100000 (c_48.1 [.pen, .int many, .int kinds, .int most, .int lng]) (fun _ d => ∃ m, d = lawD m ∧ WOk m ∧ m.many = many ∧ m.kinds = kinds ∧ TabOk m.rows (kinds + 1) 0 many lng.toNat most.toNat) XF := by
  delta c_48
  dsimp only
  simp [startE, N_48, e_draw]
  refine wb_bind (wb_drawF (by omega) (by omega) (by omega) fun i i1 i2 => ?_)
  simp
  refine wb_grd (by omega) ?_
  refine wb_bind (wb_nox (wb_forI 1000 (I_tab many kinds most lng lng (1 + i) (kinds + 1) 0 many) ?_ ?_ ?_ ?_))
  · exact ⟨[], _, _, _, rfl, rfl, fun _ m => nomatch m⟩
  · rw [rngL_len]; omega
  · rintro j d env hd ⟨rs, x, y, z, rfl, hl, hr⟩
    refine ⟨_, rfl, ?_⟩
    obtain ⟨hj, rfl⟩ := rngL_at _ _ _ _ hd
    simp
    refine wb_grd (by omega) (wb_grd (by rw [rngL_len]; unfold big; omega) (wb_bindX ((wb_compL 103 (fun _ => MvX 0 many lng (1 + i)) (by rw [rngL_len]; omega) fun j y hy => ⟨_, rfl, ?_⟩).mono (fun j r _ z => ?_) fun _ _ _ z => z)))
    · simp
      refine wb_bind (wb_call (d_word (many := many) (most := lng) (by omega) (by omega) (by omega) (by omega)) (by omega) ?_)
      rintro _ ⟨w, rfl, w1, w2⟩
      exact wb_bind (wb_drawF (by omega) (by omega) (by omega) fun x x1 x2 => wb_ret ⟨(w, x), rfl, w1, w2, x1, x2⟩)
    · obtain ⟨_, z2, z3⟩ := z
      obtain ⟨r, rfl, hr2⟩ := map_of z3
      refine wb_grd (by unfold big; omega) (wb_ret ⟨rs ++ [r], _, _, _, by rw [List.map_append]; rfl, by simp [hl], fun q hq => ?_⟩)
      rcases List.mem_append.mp hq with hq | hq
      · exact hr q hq
      · rw [List.mem_singleton.mp hq]
        exact ⟨by rw [rngL_len, List.length_map] at z2; omega, hr2⟩
  · rintro e ⟨rs, x, y, z, rfl, hl, hr⟩
    rw [rngL_len] at hl
    simp [frzE_def]
    have ho := rows_ok (n := 1 + i) (most := most) (by omega) (by omega) (by omega) hr
    have hw : TabOk rs (kinds + 1) 0 many 12 24 := ⟨ho.ne, by have := ho.le; omega, ho.row, fun r hr v hv => ⟨by have := (ho.mv r hr v hv).1; omega, (ho.mv r hr v hv).2⟩⟩
    exact wb_ret ⟨⟨many, kinds, rs⟩, rfl, ⟨⟨h1, h2, k1, k2⟩, hw⟩, rfl, rfl, ho⟩
theorem d_reader {many kinds most lng : Int} (h1 : 2 ≤ many) (h2 : many ≤ 6) (k1 : 1 ≤ kinds) (k2 : kinds ≤ 6) (h3 : 1 ≤ most) (h4 : most ≤ 40) (h5 : 0 ≤ lng) (h6 : lng ≤ 8) : Wb 100000 (c_49.1 [.pen, .int many, .int kinds, .int most, .int lng]) (fun _ d => ∃ m, d = lawD m ∧ ROk m ∧ m.many = many ∧ m.kinds = kinds ∧ TabOk m.rows many (-2) kinds lng.toNat most.toNat) XF := by
  delta c_49
  dsimp only
  simp [startE, N_49, e_draw]
  refine wb_bind (wb_drawF (by omega) (by omega) (by omega) fun i i1 i2 => ?_)
  simp
  refine wb_grd (by omega) ?_
  refine wb_bind (wb_nox (wb_forI 1000 (I_tab many kinds most lng lng (1 + i) many (-2) kinds) ?_ ?_ ?_ ?_))
  · exact ⟨[], _, _, _, rfl, rfl, fun _ m => nomatch m⟩
  · rw [rngL_len]; omega
  · rintro j d env hd ⟨rs, x, y, z, rfl, hl, hr⟩
    refine ⟨_, rfl, ?_⟩
    obtain ⟨hj, rfl⟩ := rngL_at _ _ _ _ hd
    simp
    refine wb_grd (by omega) (wb_grd (by rw [rngL_len]; unfold big; omega) (wb_bindX ((wb_compL 103 (fun _ => MvX (-2) kinds lng (1 + i)) (by rw [rngL_len]; omega) fun j y hy => ⟨_, rfl, ?_⟩).mono (fun j r _ z => ?_) fun _ _ _ z => z)))
    · simp
      refine wb_bind (wb_call (d_told (kinds := kinds) (most := lng) (by omega) (by omega) (by omega) (by omega)) (by omega) ?_)
      rintro _ ⟨w, rfl, w1, w2⟩
      exact wb_bind (wb_drawF (by omega) (by omega) (by omega) fun x x1 x2 => wb_ret ⟨(w, x), rfl, w1, w2, x1, x2⟩)
    · obtain ⟨_, z2, z3⟩ := z
      obtain ⟨r, rfl, hr2⟩ := map_of z3
      refine wb_grd (by unfold big; omega) (wb_ret ⟨rs ++ [r], _, _, _, by rw [List.map_append]; rfl, by simp [hl], fun q hq => ?_⟩)
      rcases List.mem_append.mp hq with hq | hq
      · exact hr q hq
      · rw [List.mem_singleton.mp hq]
        exact ⟨by rw [rngL_len, List.length_map] at z2; omega, hr2⟩
  · rintro e ⟨rs, x, y, z, rfl, hl, hr⟩
    rw [rngL_len] at hl
    simp [frzE_def]
    have ho := rows_ok (n := 1 + i) (most := most) (by omega) (by omega) (by omega) hr
    have hw : TabOk rs many (-2) kinds 8 40 := ⟨ho.ne, by have := ho.le; omega, ho.row, fun r hr v hv => ⟨by have := (ho.mv r hr v hv).1; omega, (ho.mv r hr v hv).2⟩⟩
    exact wb_ret ⟨⟨many, kinds, rs⟩, rfl, ⟨⟨h1, h2, k1, k2⟩, hw⟩, rfl, rfl, ho⟩

end Gx
set_option Elab.async false
set_option linter.all false
set_option maxRecDepth 100000
set_option maxHeartbeats 2000000
namespace Gx
open PySem L2 Stp NdefX LamX Pu
open PyProof.Rows hiding St

/-! the known machines -/
theorem k_plain {k : Int} (h1 : 1 ≤ k) (h2 : k ≤ 3) : ∃ w r, c_52.1 [.int k] = .ret (duoD w r) ∧ DuoOk w r 3 := by
  obtain rfl | rfl | rfl : k = 1 ∨ k = 2 ∨ k = 3 := by omega
  all_goals exact duoB_ok (by kernel_rfl)
theorem k_escaped {k : Int} (h1 : 2 ≤ k) (h2 : k ≤ 3) : ∃ w r, c_53.1 [.int k] = .ret (duoD w r) ∧ DuoOk w r 3 := by
  obtain rfl | rfl : k = 2 ∨ k = 3 := by omega
  all_goals exact duoB_ok (by kernel_rfl)
theorem k_late {k : Int} (h1 : 1 ≤ k) (h2 : k ≤ 3) : ∃ w r, c_54.1 [.int k] = .ret (duoD w r) ∧ DuoOk w r 3 := by
  obtain rfl | rfl | rfl : k = 1 ∨ k = 2 ∨ k = 3 := by omega
  all_goals exact duoB_ok (by kernel_rfl)
theorem k_doubled {k : Int} (h1 : 1 ≤ k) (h2 : k ≤ 3) : ∃ w r, c_55.1 [.int k] = .ret (duoD w r) ∧ DuoOk w r 3 := by
  obtain rfl | rfl | rfl : k = 1 ∨ k = 2 ∨ k = 3 := by omega
  all_goals exact duoB_ok (by kernel_rfl)
theorem k_turning {k : Int} (h1 : 1 ≤ k) (h2 : k ≤ 3) : ∃ w r, c_56.1 [.int k] = .ret (duoD w r) ∧ DuoOk w r 3 := by
  obtain rfl | rfl | rfl : k = 1 ∨ k = 2 ∨ k = 3 := by omega
  all_goals exact duoB_ok (by kernel_rfl)

end Gx
set_option Elab.async false
set_option linter.all false
set_option maxRecDepth 100000
set_option maxHeartbeats 2000000
namespace Gx
open PySem L2 Stp NdefX LamX Pu
open PyProof.Rows hiding St

theorem d_changed {w r : Mch} (h : DuoOk w r 3) : Wb 1000 (c_57.1 [.pen, duoD w r]) (fun _ => DuoX 3) XF := by
  have w1 := h.wt.ne
  have w2 := h.wt.le
  have r1 := h.rt.ne
  have r2 := h.rt.le
  have n1 := h.num.m1
  have n2 := h.num.m2
  have n3 := h.num.k1
  have n4 := h.num.k2
  delta c_57
  dsimp only
  simp [startE, N_57, e_draw, duoD, lawD, atI, ixN]
  refine wb_grd (by unfold big; omega) ?_
  rw [compLL_tab fun d => by simp]
  simp
  refine wb_grd (by unfold big; omega) ?_
  rw [compLL_tab fun d => by simp]
  simp
  refine wb_bind (wb_drawF (by omega) (by omega) (by omega) fun i i1 i2 => ?_)
  simp
  refine wb_ite (fun _ => ?_) (fun _ => ?_)
  · refine wb_bind (wb_drawF (by omega) (by omega) (by omega) fun a a1 a2 => ?_)
    refine wb_bind (wb_drawF (by omega) (by omega) (by omega) fun b b1 b2 => ?_)
    refine wb_callB (d_word (many := w.many) (most := 2) (by omega) (by omega) (by omega) (by omega)) (by omega) ?_
    rintro _ ⟨u, rfl, u1, u2⟩
    refine wb_bind (wb_drawF (by omega) (by omega) (by omega) fun x x1 x2 => ?_)
    have e := rowsL_rowlen h.wt (i := a.toNat) (by omega)
    simp only [ixA_int, ixN_pos a1 a2, ixN_pos b1 (show b < (((rowsL w.rows)[a.toNat]?.getD []).length : Nat) by omega), T.bind_ret, T.noX_ret, tab_set, rowsL_toD]
    exact wb_ret (h.setW (by omega) (by omega) u2 x1 x2)
  · refine wb_bind (wb_drawF (by omega) (by omega) (by omega) fun a a1 a2 => ?_)
    refine wb_bind (wb_drawF (by omega) (by omega) (by omega) fun b b1 b2 => ?_)
    have e := rowsL_rowlen h.rt (i := a.toNat) (by omega)
    refine wb_ite (fun _ => ?_) (fun _ => ?_)
    · obtain ⟨g1, g2, _⟩ := h.rt.at_ (i := a.toNat) (j := b.toNat) (by omega) (by omega)
      have e2 := (h.rt.row_at (i := a.toNat) (by omega)).2
      rw [rowsL_toD, ix_tab a1 a2, T.bind_ret, ix_row b1 (by omega), T.bind_ret, ix_mv0, T.bind_ret]
      refine wb_grd (flatTr_iD _) ?_
      refine wb_bind (wb_drawF (by omega) (by omega) (by omega) fun x x1 x2 => ?_)
      simp only [ixA_int, ixN_pos a1 a2, ixN_pos b1 (show b < (((rowsL r.rows)[a.toNat]?.getD []).length : Nat) by omega), T.bind_ret, T.noX_ret, tab_set, rowsL_toD]
      exact wb_ret (h.setR (by omega) g1 g2 x1 x2)
    · refine wb_callB (d_told (kinds := w.kinds) (most := 2) (by omega) (by omega) (by omega) (by omega)) (by omega) ?_
      rintro _ ⟨u, rfl, u1, u2⟩
      refine wb_bind (wb_drawF (by omega) (by omega) (by omega) fun x x1 x2 => ?_)
      simp only [ixA_int, ixN_pos a1 a2, ixN_pos b1 (show b < (((rowsL r.rows)[a.toNat]?.getD []).length : Nat) by omega), T.bind_ret, T.noX_ret, tab_set, rowsL_toD]
      exact wb_ret (h.setR (by omega) (by omega) u2 x1 x2)

end Gx
set_option Elab.async false
set_option linter.all false
set_option maxRecDepth 100000
set_option maxHeartbeats 2000000
namespace Gx
open PySem L2 Stp NdefX LamX Pu
open PyProof.Rows hiding St

theorem d_duo {most : Int} (h1 : 1 ≤ most) (h2 : most ≤ 3) : Wb 1000000 (c_58.1 [.pen, .int most]) (fun _ => DuoX 3) XF := by
  delta c_58
  dsimp only
  refine wb_runF (wb_seq ?_)
  refine wb_eq (by simp [startE, N_58, e_draw]; rfl) ?_
  (first | with_reducible refine wb_bind ?_ | with_reducible refine wb_bindX ?_ | skip); refine wb_drawF (by omega) (by omega) (by omega) fun a a1 a2 => ?_
  refine wb_eq (by simp; rfl) ?_
  (first | with_reducible refine wb_bind ?_ | with_reducible refine wb_bindX ?_ | skip); refine wb_drawF (by omega) (by omega) (by omega) fun b b1 b2 => ?_
  (refine wb_ret ?_; try dsimp only)
  refine wb_seq ?_
  refine wb_eq (by simp [e_draw]; rfl) ?_
  refine wb_ite (fun hb => ?_) (fun hb => ?_)
  · (first | with_reducible refine wb_bind ?_ | with_reducible refine wb_bindX ?_ | skip); refine wb_drawF (by omega) (by omega) (by omega) fun m m1 m2 => ?_
    simp
    (first | with_reducible refine wb_callB (d_writer (many := 2 + m) (kinds := 1 + a) (most := 3) (lng := 2) (by omega) (by omega) (by omega) (by omega) (by omega) (by omega) (by omega) (by omega)) (by omega) ?_ | with_reducible refine wb_callX (d_writer (many := 2 + m) (kinds := 1 + a) (most := 3) (lng := 2) (by omega) (by omega) (by omega) (by omega) (by omega) (by omega) (by omega) (by omega)) (by omega) ?_ | with_reducible refine wb_call (d_writer (many := 2 + m) (kinds := 1 + a) (most := 3) (lng := 2) (by omega) (by omega) (by omega) (by omega) (by omega) (by omega) (by omega) (by omega)) (by omega) ?_); rintro _ ⟨w, rfl, w1, w2, w3, w4⟩
    (first | with_reducible refine wb_callB (d_reader (many := 2 + m) (kinds := 1 + a) (most := 3) (lng := 2) (by omega) (by omega) (by omega) (by omega) (by omega) (by omega) (by omega) (by omega)) (by omega) ?_ | with_reducible refine wb_callX (d_reader (many := 2 + m) (kinds := 1 + a) (most := 3) (lng := 2) (by omega) (by omega) (by omega) (by omega) (by omega) (by omega) (by omega) (by omega)) (by omega) ?_ | with_reducible refine wb_call (d_reader (many := 2 + m) (kinds := 1 + a) (most := 3) (lng := 2) (by omega) (by omega) (by omega) (by omega) (by omega) (by omega) (by omega) (by omega)) (by omega) ?_); rintro _ ⟨r, rfl, r1, r2, r3, r4⟩
    refine wb_ret ?_
    show Wb _ (T.ret (duoD w r)) _ _
    refine wb_ret ⟨w, r, rfl, ⟨w1.num, by omega, by omega, by omega, by omega, ?_, ?_⟩⟩
    · rw [w2, w3]; exact w4
    · rw [w2, w3]; exact r4.more (by decide) (by decide)
  · (refine wb_ret ?_; try dsimp only)
    obtain ⟨pw, pr, ep, op⟩ := k_plain (k := 1 + a) (by omega) (by omega)
    refine wb_seq ?_
    refine wb_eq (by simp [ep]; rfl) ?_
    (refine wb_ret ?_; try dsimp only)
    refine wb_cut (c := 0) (fun e => ∃ d, e = [some (.fz .pen), some (.fz (.int most)), some (.fz d), none, some (.fz (.int (1 + a))), some (.fz (.int b)), none] ∧ DuoX 3 d) ?_ (by omega) ?_
    · by_cases q1 : b = 1
      · subst q1
        obtain ⟨w, r, e, o⟩ := k_escaped (k := if 1 + a > 2 then 1 + a else 2) (by split <;> omega) (by split <;> omega)
        refine wb_eq (by simp [e]; rfl) ?_
        exact wb_ret ⟨_, rfl, _, rfl, w, r, rfl, o⟩
      · by_cases q2 : b = 2
        · subst q2
          obtain ⟨w, r, e, o⟩ := k_late (k := 1 + a) (by omega) (by omega)
          refine wb_eq (by simp [e]; rfl) ?_
          exact wb_ret ⟨_, rfl, _, rfl, w, r, rfl, o⟩
        · by_cases q3 : 2 < b
          · by_cases q4 : b < 5
            · obtain ⟨w, r, e, o⟩ := k_doubled (k := 1 + a) (by omega) (by omega)
              refine wb_eq (by simp [q1, q2, q3, q4, e]; rfl) ?_
              exact wb_ret ⟨_, rfl, _, rfl, w, r, rfl, o⟩
            · obtain ⟨w, r, e, o⟩ := k_turning (k := 1 + a) (by omega) (by omega)
              refine wb_eq (by simp [q1, q2, q3, q4, e]; rfl) ?_
              exact wb_ret ⟨_, rfl, _, rfl, w, r, rfl, o⟩
          · refine wb_eq (by simp [q1, q2, q3]; rfl) ?_
            exact wb_ret ⟨_, rfl, _, rfl, pw, pr, rfl, op⟩
    · rintro _ ⟨d, rfl, hd⟩
      refine wb_seq (wb_for ?_)
      refine wb_eq (by simp [e_draw]; rfl) ?_
      (first | with_reducible refine wb_bind ?_ | with_reducible refine wb_bindX ?_ | skip); refine wb_drawF (by omega) (by omega) (by omega) fun c c1 c2 => ?_
      simp
      refine wb_grd (by split <;> omega) ?_
      (refine wb_ret ?_; try dsimp only)
      refine wb_forI 1000 (fun j env => ∃ d x y, env = [some (.fz .pen), some (.fz (.int most)), some (.fz d), x, some (.fz (.int (1 + a))), some (.fz (.int b)), y] ∧ DuoX 3 d) ?_ ?_ ?_ ?_
      · exact ⟨d, _, _, rfl, hd⟩
      · rw [rngL_len]; split <;> omega
      · rintro j y env hy ⟨d, x1, x2, rfl, w, r, rfl, o⟩
        refine ⟨_, rfl, wb_asg ?_⟩
        refine wb_eq (by simp; rfl) ?_
        with_reducible refine wb_call (d_changed o) (by omega) ?_
        intro d hd
        exact ⟨d, _, _, rfl, hd⟩
      · rintro _ ⟨d, x1, x2, rfl, hd⟩
        dsimp only
        refine wb_eq (by simp; rfl) ?_
        (refine wb_ret ?_; try dsimp only)
        exact wb_ret hd

end Gx
set_option Elab.async false
set_option linter.all false
set_option maxRecDepth 100000
set_option maxHeartbeats 2000000
namespace Gx
open PySem L2 Stp NdefX LamX Pu
open PyProof.Rows hiding St

/-! signs, data, check_match, is_message -/
theorem e_signs {c : Nat} {m : Mch} (hc : c ∈ [0, 1, 2]) : c_30001.1 [objD c m] = .ret (.int m.many) := by
  delta c_30001
  dsimp only
  simp at hc
  simp [startE, N_30001, hc]
theorem e_data {c : Nat} {m : Mch} (hc : c ∈ [0, 1, 2]) : c_30002.1 [objD c m] = .ret (.int m.kinds) := by
  delta c_30002
  dsimp only
  simp at hc
  simp [startE, N_30002, hc]
end Gx
set_option Elab.async false
set_option linter.all false
set_option maxRecDepth 100000
set_option maxHeartbeats 2000000
namespace Gx
open PySem L2 Stp NdefX LamX Pu
open PyProof.Rows hiding St

/-! what the program's machines do -/
theorem e_state {c : Nat} {m : Mch} {s : Int} (hc : c ∈ [0, 1, 2]) (hs : InSt m s) : c_30005.1 [objD c m, .int s] = .ret .non := by
  have h1 := hs.1
  have h2 := hs.2
  delta c_30005
  dsimp only
  simp at hc
  simp [startE, N_30005, hc, e_below (d := .int s) rfl, rangeB, h1, h2]
theorem e_wplace {m : Mch} (h : WOk m) {s x : Int} (hs : InSt m s) (h1 : -1 ≤ x) (h2 : x < m.kinds) : c_31001.1 [objD 1 m, .int s, .int x] = .ret (.int (if x = -1 then m.kinds else x)) := by
  delta c_31001
  dsimp only
  simp [startE, N_31001, e_state (c := 1) (by decide) hs, e_input (d := .int x) rfl, rangeB, h1, h2]
  split <;> rfl
theorem e_wstep {m : Mch} (h : WOk m) {s x : Int} (hs : InSt m s) (h1 : -1 ≤ x) (h2 : x < m.kinds) : c_31002.1 [objD 1 m, .int s, .int x] = .ret (mvD (wmove m s x)) := by
  have k1 := h.num.k1
  delta c_31002
  dsimp only
  simp [startE, N_31002, e_wplace h hs h1 h2]
  rw [ix_move h.tab hs.1 hs.2 (by split <;> omega) (by split <;> omega)]
  unfold wmove wplace
  split <;> rfl
end Gx
set_option Elab.async false
set_option linter.all false
set_option maxRecDepth 100000
set_option maxHeartbeats 2000000
namespace Gx
open PySem L2 Stp NdefX LamX Pu
open PyProof.Rows hiding St

theorem e_rplace {m : Mch} (h : ROk m) {s x : Int} (hs : InSt m s) (h1 : 0 ≤ x) (h2 : x < m.many) : c_32001.1 [objD 2 m, .int s, .int x] = .ret (.int x) := by
  delta c_32001
  dsimp only
  simp [startE, N_32001, e_state (m := m) (c := 2) (by decide) hs, e_below (d := .int x) rfl, rangeB, h1, h2]
theorem e_rstep {m : Mch} (h : ROk m) {s x : Int} (hs : InSt m s) (h1 : 0 ≤ x) (h2 : x < m.many) : c_32002.1 [objD 2 m, .int s, .int x] = .ret (mvD (rmove m s x)) := by
  delta c_32002
  dsimp only
  simp [startE, N_32002, e_rplace h hs h1 h2]
  rw [ix_move h.tab hs.1 hs.2 h1 h2]
  rfl


/-! pairs of states that are met together -/
theorem e_inputs {c : Nat} {m : Mch} (hc : c ∈ [0, 1, 2]) (h : NumOk m) : c_33.1 [objD c m] = .ret (.lst (iD (-1 :: upL m.kinds))) := by
  have k1 := h.k1
  have k2 := h.k2
  delta c_33
  dsimp only
  have hc2 := hc
  simp at hc2
  simp [startE, N_33, e_data (c := c) (m := m) hc, hc2]
  rw [grd_pos (by omega), grd_pos (by rw [rgD_iD, iD_length, upL_len]; unfold big; omega), rgD_iD]
  simp [iD]
theorem isi_WW {m : Mch} : isiF kTb [objD 1 m, .cls 1] = .ret (.bl true) := rfl
theorem isi_RW {m : Mch} : isiF kTb [objD 2 m, .cls 1] = .ret (.bl false) := rfl
def stepsW (m : Mch) : List Int := -1 :: upL m.kinds
def stepsR (m : Mch) : List Int := upL m.many
theorem stepsW_len {m : Mch} (h : NumOk m) : (stepsW m).length ≤ 7 := by
  have := h.k1
  have := h.k2
  unfold stepsW
  rw [List.length_cons, upL_len]
  omega
theorem stepsR_len {m : Mch} (h : NumOk m) : (stepsR m).length ≤ 7 := by
  have := h.m1
  have := h.m2
  unfold stepsR
  rw [upL_len]
  omega
theorem e_stepsW {m : Mch} (h : NumOk m) : c_36.1 [objD 1 m] = .ret (.lst (iD (stepsW m))) := by
  delta c_36
  dsimp only
  simp [startE, N_36, e_inputs (c := 1) (by decide) h, stepsW, isi_WW]
theorem e_stepsR {m : Mch} (h : NumOk m) : c_36.1 [objD 2 m] = .ret (.lst (iD (stepsR m))) := by
  have k1 := h.m1
  have k2 := h.m2
  delta c_36
  dsimp only
  simp [startE, N_36, e_signs (c := 2) (m := m) (by decide), stepsR, isi_RW]
  rw [grd_pos (by omega), rgD_iD]
def SrE (u v : Mch) (L : List (P2 × List Int)) (W : List P2) : Prop := MetOk (BoxM u v) (L.map (·.1)) ∧ (∀ p ∈ W, p ∈ L.map (·.1)) ∧ ∀ q ∈ L, q.2.length ≤ L.length
def dictL (L : List (P2 × List Int)) : List (List Key × D) := dictP (L.map fun q => (q.1, D.lst (iD q.2)))
theorem dictL_keys (L : List (P2 × List Int)) : (L.map fun q => (q.1, D.lst (iD q.2))).map (·.1) = L.map (·.1) := by rw [List.map_map]; rfl
theorem notIn_dictL {L : List (P2 × List Int)} {x : P2} : notInD (.tup [.int x.1, .int x.2]) (.dT (dictL L)) = .ret (.bl (!decide (x ∈ L.map (·.1)))) := by
  unfold dictL
  rw [notIn_dictP, dictL_keys]
theorem dictL_new {L : List (P2 × List Int)} {x : P2} {w : List Int} (h : x ∉ L.map (·.1)) : putD (dictL L) [.inl x.1, .inl x.2] (.lst (iD w)) = dictL (L ++ [(x, w)]) := by
  unfold dictL
  rw [dictP_new (by rw [dictL_keys]; exact h), List.map_append]
  rfl
theorem dictL_len (L : List (P2 × List Int)) : (dictL L).length = L.length := by
  unfold dictL
  rw [dictP_len, List.length_map]
theorem dictL_at {L : List (P2 × List Int)} {x : P2} (h : x ∈ L.map (·.1)) : ∃ w, (x, w) ∈ L ∧ valD (dictL L) [.inl x.1, .inl x.2] = some (.lst (iD w)) := by
  obtain ⟨d, h1, h2⟩ := dictP_at (L := L.map fun q => (q.1, D.lst (iD q.2))) (by rw [dictL_keys]; exact h)
  obtain ⟨q, hq, e⟩ := List.mem_map.mp h1
  cases e
  exact ⟨q.2, hq, h2⟩
theorem listT_dictL (L : List (P2 × List Int)) : listTF [.dT (dictL L)] = .ret (.lst ((L.map (·.1)).map pD)) := by
  unfold dictL
  rw [listT_dictP, dictL_keys]
theorem stepsW_mem {m : Mch} (h : NumOk m) {x : Int} (hx : x ∈ stepsW m) : -1 ≤ x ∧ x < m.kinds := by
  have := h.k1
  rcases List.mem_cons.mp hx with rfl | hx
  · omega
  · have := mem_upL.mp hx
    omega
theorem stepsR_mem {m : Mch} {x : Int} (h : NumOk m) (hx : x ∈ stepsR m) : 0 ≤ x ∧ x < m.many := mem_upL.mp hx
theorem ix_pD0 (p : P2) : ixD (pD p) (.int 0) = .ret (.int p.1) := rfl
theorem ix_pD1 (p : P2) : ixD (pD p) (.int 1) = .ret (.int p.2) := rfl
theorem ix_mv0 (p : Mv) : ixD (mvD p) (.int 0) = .ret (.tup (iD p.1)) := rfl
theorem ix_mv1 (p : Mv) : ixD (mvD p) (.int 1) = .ret (.int p.2) := rfl
theorem it_dictL {L : List (P2 × List Int)} {p : P2} {w : List Int} (h : valD (dictL L) [.inl p.1, .inl p.2] = some (.lst (iD w))) : itO (.dt (dictL L)) (pD p) = .ret (.lst (iD w)) := by
  show (match keysD [.int p.1, .int p.2] with | some k => ofO (valD (dictL L) k) | none => .fail) = _
  rw [keysD_pair]
  dsimp only
  rw [h]
  rfl
def SrR (d : D) : Prop := ∃ (K : List P2) (r : D), d = .tup [.lst (K.map pD), r] ∧ (r = .non ∨ ∃ w, r = .lst (iD w))
def I_srW (u v : Mch) (N n : Nat) (env : Pu.Env) : Prop := ∃ (L : List (P2 × List Int)) (W : List P2) (x4 x5 x6 x7 x8 : Option O), env = [some (.fz (objD 1 u)), some (.fz (objD 1 v)), some (.dt (dictL L)), some (.ls (W.map pD)), x4, x5, x6, x7, x8] ∧ SrE u v L W ∧ n ≤ N ∧ n + L.length = N + W.length
def I_stW (u v : Mch) (p : P2) (N n : Nat) (env : Pu.Env) : Prop := ∃ (L : List (P2 × List Int)) (W : List P2) (x5 x6 x7 x8 : Option O), env = [some (.fz (objD 1 u)), some (.fz (objD 1 v)), some (.dt (dictL L)), some (.ls (W.map pD)), some (.fz (pD p)), x5, x6, x7, x8] ∧ SrE u v L W ∧ p ∈ L.map (·.1) ∧ n ≤ N ∧ n + L.length = N + W.length
def I_srR (u v : Mch) (N n : Nat) (env : Pu.Env) : Prop := ∃ (L : List (P2 × List Int)) (W : List P2) (x4 x5 x6 x7 x8 : Option O), env = [some (.fz (objD 2 u)), some (.fz (objD 2 v)), some (.dt (dictL L)), some (.ls (W.map pD)), x4, x5, x6, x7, x8] ∧ SrE u v L W ∧ n ≤ N ∧ n + L.length = N + W.length
def I_stR (u v : Mch) (p : P2) (N n : Nat) (env : Pu.Env) : Prop := ∃ (L : List (P2 × List Int)) (W : List P2) (x5 x6 x7 x8 : Option O), env = [some (.fz (objD 2 u)), some (.fz (objD 2 v)), some (.dt (dictL L)), some (.ls (W.map pD)), some (.fz (pD p)), x5, x6, x7, x8] ∧ SrE u v L W ∧ p ∈ L.map (·.1) ∧ n ≤ N ∧ n + L.length = N + W.length

end Gx
set_option Elab.async false
set_option linter.all false
set_option maxRecDepth 100000
set_option maxHeartbeats 2000000
namespace Gx
open PySem L2 Stp NdefX LamX Pu
open PyProof.Rows hiding St

theorem e_searchW {u v : Mch} (hu : WOk u) (hv : WOk v) (hm : v.many = u.many) (hk : v.kinds = u.kinds) : ∃ d, c_37.1 [objD 1 u, objD 1 v] = .ret d ∧ SrR d := by
  have t1 := hu.tab.le
  have t2 := hv.tab.le
  have hN : ∀ st, MetOk (BoxM u v) st → st.length ≤ u.rows.length * v.rows.length := fun st h => box_len h
  have hb : u.rows.length * v.rows.length ≤ 10000 := Nat.le_trans (Nat.mul_le_mul t1 t2) (by decide)
  refine pure_some ?_
  delta c_37
  dsimp only
  refine wb_runF (wb_seq ?_)
  refine wb_eq (by simp [startE, N_37]; rfl) ?_
  (refine wb_ret ?_; try dsimp only)
  refine wb_seq ?_
  refine wb_eq (by simp; rfl) ?_
  (refine wb_ret ?_; try dsimp only)
  refine wb_seq ?_
  refine (wb_whileL 0 (I_srW u v (u.rows.length * v.rows.length)) (fun e => ∃ (L : List (P2 × List Int)) (x3 x4 x5 x6 x7 x8 : Option O), e = [some (.fz (objD 1 u)), some (.fz (objD 1 v)), some (.dt (dictL L)), x3, x4, x5, x6, x7, x8]) (fun r => ∃ d, r = .rt d ∧ SrR d) (n := u.rows.length * v.rows.length) ?_ (by omega) (by omega) ?_).mono ?_ (fun _ _ _ z => z)
  · refine ⟨[((0, 0), [])], [(0, 0)], _, _, _, _, _, rfl, ⟨⟨by simp, fun x hx => ?_⟩, by simp, by simp⟩, by omega, by simp⟩
    rw [List.map_singleton, List.mem_singleton] at hx
    rw [hx]
    exact box0 hu.tab.ne hv.tab.ne
  · rintro n env ⟨L, W, x4, x5, x6, x7, x8, rfl, ⟨hI1, hI2, hI3⟩, hnN, hn⟩
    have hL := hN _ hI1
    rw [List.length_map] at hL
    cases W with
    | nil =>
      right
      exact ⟨by have e := neD_pairs []; simp at e; simp [e], L, _, _, _, _, _, _, rfl⟩
    | cons p W =>
      left
      have hp := hI2 p (List.mem_cons_self ..)
      have hbx := hI1.mem p hp
      rw [List.length_cons] at hn
      refine ⟨by have e := neD_pairs (p :: W); simp at e; simp [e], by omega, ?_⟩
      refine wb_seq ?_
      refine wb_eq (by simp [ixN_zero]; rfl) ?_
      refine wb_grd (by unfold big; omega) ?_
      (refine wb_ret ?_; try dsimp only)
      refine wb_for ?_
      refine wb_eq (by simp [e_stepsW hu.num]; rfl) ?_
      (refine wb_ret ?_; try dsimp only)
      refine (wb_forL 0 (fun r => ∃ d, r = .rt d ∧ SrR d) (fun _ e => I_stW u v p (u.rows.length * v.rows.length) (n - 1) e) ⟨L, W, _, _, _, _, rfl, ⟨hI1, fun q hq => hI2 q (List.mem_cons_of_mem _ hq), hI3⟩, hp, by omega, by omega⟩ (by omega) ?_).mono ?_ (fun _ _ _ z => z)
      · rintro j d env hd ⟨L, W, x5, x6, x7, x8, rfl, ⟨hI1, hI2, hI3⟩, hp, hnN, hn⟩
        have hL := hN _ hI1
        rw [List.length_map] at hL
        obtain ⟨x, rfl, hx⟩ := map_at hd
        have hx := stepsW_mem hu.num (List.mem_of_getElem? hx)
        obtain ⟨w, hw, ew⟩ := dictL_at hp
        have hwl : w.length ≤ L.length := hI3 _ hw
        refine ⟨_, rfl, ?_⟩
        dsimp only [List.set]
        refine wb_seq ?_
        refine wb_eq (by simp [ix_pD0, ix_pD1, e_wstep hu ⟨hbx.1, hbx.2.1⟩ hx.1 hx.2, e_wstep hv (s := p.2) (x := x) ⟨hbx.2.2.1, hbx.2.2.2⟩ hx.1 (by omega)]; rfl) ?_
        (refine wb_ret ?_; try dsimp only)
        obtain ⟨a1, a2, a3⟩ := wmove_ok hu (s := p.1) ⟨hbx.1, hbx.2.1⟩ hx.1 hx.2
        obtain ⟨b1, b2, b3⟩ := wmove_ok hv (s := p.2) (x := x) ⟨hbx.2.2.1, hbx.2.2.2⟩ hx.1 (by omega)
        generalize wmove u p.1 x = a at *
        generalize wmove v p.2 x = b at *
        by_cases hab : a.1 = b.1
        · refine wb_seq (wb_ifno ?_ ?_)
          · simp [ix_mv0, neD_intsT, hab]
          refine wb_ret ?_
          dsimp only
          refine wb_seq (wb_asg ?_)
          refine wb_eq (by simp [ix_mv1]; rfl) ?_
          (refine wb_ret ?_; try dsimp only)
          have hni := notIn_dictL (L := L) (x := (a.2, b.2))
          dsimp only at hni
          by_cases hk2 : (a.2, b.2) ∈ L.map (·.1)
          · refine wb_ifno ?_ ?_
            · simp only [hk2, decide_true, Bool.not_true] at hni
              simp [hni]
            exact wb_ret ⟨L, W, _, _, _, _, rfl, ⟨hI1, hI2, hI3⟩, hp, hnN, hn⟩
          · refine wb_if ?_
            simp only [hk2, decide_false, Bool.not_false] at hni
            refine wb_eq (by simp [hni]; rfl) ?_
            refine wb_ret ?_
            rw [if_pos (by rfl)]
            refine wb_seq ?_
            refine wb_eq (by simp [it_dictL ew]; rfl) ?_
            refine wb_grd (by unfold big; omega) ?_
            refine wb_grd (by rw [dictL_len]; unfold big; omega) ?_
            have en := dictL_new (x := (a.2, b.2)) (w := w ++ [x]) hk2
            dsimp only at en
            rw [show iD w ++ [D.int x] = iD (w ++ [x]) by simp [iD], en]
            refine wb_ret ?_
            dsimp only
            refine wb_eq (by simp; rfl) ?_
            refine wb_grd (by unfold big; omega) ?_
            have ek : (L ++ [((a.2, b.2), w ++ [x])]).map (·.1) = addS (L.map (·.1)) (a.2, b.2) := by simp [addS, hk2]
            have hbox : BoxM u v (a.2, b.2) := ⟨a3.1, a3.2, b3.1, b3.2⟩
            refine wb_ret ⟨L ++ [((a.2, b.2), w ++ [x])], W ++ [(a.2, b.2)], _, _, _, _, by rw [List.map_append]; rfl, ⟨by rw [ek]; exact hI1.add hbox, fun q hq => ?_, fun q hq => ?_⟩, by rw [ek]; exact mem_addS.mpr (.inl hp), hnN, by simp; omega⟩
            · rw [ek]
              rcases List.mem_append.mp hq with hq | hq
              · exact mem_addS.mpr (.inl (hI2 q hq))
              · exact mem_addS.mpr (.inr (List.mem_singleton.mp hq))
            · rw [List.length_append, List.length_singleton]
              rcases List.mem_append.mp hq with hq | hq
              · have := hI3 q hq
                omega
              · rw [List.mem_singleton.mp hq]
                show (w ++ [x]).length ≤ _
                rw [List.length_append, List.length_singleton]
                omega
        · refine wb_seq (wb_if ?_)
          refine wb_eq (by simp [ix_mv0, neD_intsT, hab]; rfl) ?_
          refine wb_ret ?_
          rw [if_pos (by rfl)]
          refine wb_retS ?_
          refine wb_eq (by simp [listT_dictL, it_dictL ew]; rfl) ?_
          refine wb_grd (by unfold big; omega) ?_
          refine wb_ret ⟨_, rfl, L.map (·.1), .lst (iD (w ++ [x])), ?_, .inr ⟨_, rfl⟩⟩
          simp [iD]
      · rintro j r _ ⟨rfl, ⟨e, rfl, z⟩ | ⟨e, ⟨_, z, _⟩, _⟩ | ⟨⟨d, rfl, z⟩, _⟩⟩
        · obtain ⟨L, W, x5, x6, x7, x8, rfl, h1, h2, h3, h4⟩ := z
          exact ⟨n - 1, by omega, L, W, _, _, _, _, _, rfl, h1, h3, h4⟩
        · cases z
        · exact ⟨d, rfl, z⟩
  · rintro j r _ ⟨rfl, ⟨e, rfl, L, x3, x4, x5, x6, x7, x8, rfl⟩ | ⟨e, ⟨_, z, _⟩, _⟩ | ⟨⟨d, rfl, z⟩, _⟩⟩
    · dsimp only
      refine wb_retS ?_
      refine wb_eq (by simp [listT_dictL]; rfl) ?_
      exact wb_ret (wb_ret ⟨L.map (·.1), .non, by simp, .inl rfl⟩)
    · cases z
    · exact wb_ret z
theorem e_searchR {u v : Mch} (hu : ROk u) (hv : ROk v) (hm : v.many = u.many) (hk : v.kinds = u.kinds) : ∃ d, c_37.1 [objD 2 u, objD 2 v] = .ret d ∧ SrR d := by
  have t1 := hu.tab.le
  have t2 := hv.tab.le
  have hN : ∀ st, MetOk (BoxM u v) st → st.length ≤ u.rows.length * v.rows.length := fun st h => box_len h
  have hb : u.rows.length * v.rows.length ≤ 10000 := Nat.le_trans (Nat.mul_le_mul t1 t2) (by decide)
  refine pure_some ?_
  delta c_37
  dsimp only
  refine wb_runF (wb_seq ?_)
  refine wb_eq (by simp [startE, N_37]; rfl) ?_
  (refine wb_ret ?_; try dsimp only)
  refine wb_seq ?_
  refine wb_eq (by simp; rfl) ?_
  (refine wb_ret ?_; try dsimp only)
  refine wb_seq ?_
  refine (wb_whileL 0 (I_srR u v (u.rows.length * v.rows.length)) (fun e => ∃ (L : List (P2 × List Int)) (x3 x4 x5 x6 x7 x8 : Option O), e = [some (.fz (objD 2 u)), some (.fz (objD 2 v)), some (.dt (dictL L)), x3, x4, x5, x6, x7, x8]) (fun r => ∃ d, r = .rt d ∧ SrR d) (n := u.rows.length * v.rows.length) ?_ (by omega) (by omega) ?_).mono ?_ (fun _ _ _ z => z)
  · refine ⟨[((0, 0), [])], [(0, 0)], _, _, _, _, _, rfl, ⟨⟨by simp, fun x hx => ?_⟩, by simp, by simp⟩, by omega, by simp⟩
    rw [List.map_singleton, List.mem_singleton] at hx
    rw [hx]
    exact box0 hu.tab.ne hv.tab.ne
  · rintro n env ⟨L, W, x4, x5, x6, x7, x8, rfl, ⟨hI1, hI2, hI3⟩, hnN, hn⟩
    have hL := hN _ hI1
    rw [List.length_map] at hL
    cases W with
    | nil =>
      right
      exact ⟨by have e := neD_pairs []; simp at e; simp [e], L, _, _, _, _, _, _, rfl⟩
    | cons p W =>
      left
      have hp := hI2 p (List.mem_cons_self ..)
      have hbx := hI1.mem p hp
      rw [List.length_cons] at hn
      refine ⟨by have e := neD_pairs (p :: W); simp at e; simp [e], by omega, ?_⟩
      refine wb_seq ?_
      refine wb_eq (by simp [ixN_zero]; rfl) ?_
      refine wb_grd (by unfold big; omega) ?_
      (refine wb_ret ?_; try dsimp only)
      refine wb_for ?_
      refine wb_eq (by simp [e_stepsR hu.num]; rfl) ?_
      (refine wb_ret ?_; try dsimp only)
      refine (wb_forL 0 (fun r => ∃ d, r = .rt d ∧ SrR d) (fun _ e => I_stR u v p (u.rows.length * v.rows.length) (n - 1) e) ⟨L, W, _, _, _, _, rfl, ⟨hI1, fun q hq => hI2 q (List.mem_cons_of_mem _ hq), hI3⟩, hp, by omega, by omega⟩ (by omega) ?_).mono ?_ (fun _ _ _ z => z)
      · rintro j d env hd ⟨L, W, x5, x6, x7, x8, rfl, ⟨hI1, hI2, hI3⟩, hp, hnN, hn⟩
        have hL := hN _ hI1
        rw [List.length_map] at hL
        obtain ⟨x, rfl, hx⟩ := map_at hd
        have hx := stepsR_mem hu.num (List.mem_of_getElem? hx)
        obtain ⟨w, hw, ew⟩ := dictL_at hp
        have hwl : w.length ≤ L.length := hI3 _ hw
        refine ⟨_, rfl, ?_⟩
        dsimp only [List.set]
        refine wb_seq ?_
        refine wb_eq (by simp [ix_pD0, ix_pD1, e_rstep hu ⟨hbx.1, hbx.2.1⟩ hx.1 hx.2, e_rstep hv (s := p.2) (x := x) ⟨hbx.2.2.1, hbx.2.2.2⟩ hx.1 (by omega)]; rfl) ?_
        (refine wb_ret ?_; try dsimp only)
        obtain ⟨a1, a2, a3⟩ := rmove_ok hu (s := p.1) ⟨hbx.1, hbx.2.1⟩ hx.1 hx.2
        obtain ⟨b1, b2, b3⟩ := rmove_ok hv (s := p.2) (x := x) ⟨hbx.2.2.1, hbx.2.2.2⟩ hx.1 (by omega)
        generalize rmove u p.1 x = a at *
        generalize rmove v p.2 x = b at *
        by_cases hab : a.1 = b.1
        · refine wb_seq (wb_ifno ?_ ?_)
          · simp [ix_mv0, neD_intsT, hab]
          refine wb_ret ?_
          dsimp only
          refine wb_seq (wb_asg ?_)
          refine wb_eq (by simp [ix_mv1]; rfl) ?_
          (refine wb_ret ?_; try dsimp only)
          have hni := notIn_dictL (L := L) (x := (a.2, b.2))
          dsimp only at hni
          by_cases hk2 : (a.2, b.2) ∈ L.map (·.1)
          · refine wb_ifno ?_ ?_
            · simp only [hk2, decide_true, Bool.not_true] at hni
              simp [hni]
            exact wb_ret ⟨L, W, _, _, _, _, rfl, ⟨hI1, hI2, hI3⟩, hp, hnN, hn⟩
          · refine wb_if ?_
            simp only [hk2, decide_false, Bool.not_false] at hni
            refine wb_eq (by simp [hni]; rfl) ?_
            refine wb_ret ?_
            rw [if_pos (by rfl)]
            refine wb_seq ?_
            refine wb_eq (by simp [it_dictL ew]; rfl) ?_
            refine wb_grd (by unfold big; omega) ?_
            refine wb_grd (by rw [dictL_len]; unfold big; omega) ?_
            have en := dictL_new (x := (a.2, b.2)) (w := w ++ [x]) hk2
            dsimp only at en
            rw [show iD w ++ [D.int x] = iD (w ++ [x]) by simp [iD], en]
            refine wb_ret ?_
            dsimp only
            refine wb_eq (by simp; rfl) ?_
            refine wb_grd (by unfold big; omega) ?_
            have ek : (L ++ [((a.2, b.2), w ++ [x])]).map (·.1) = addS (L.map (·.1)) (a.2, b.2) := by simp [addS, hk2]
            have hbox : BoxM u v (a.2, b.2) := ⟨a3.1, a3.2, b3.1, b3.2⟩
            refine wb_ret ⟨L ++ [((a.2, b.2), w ++ [x])], W ++ [(a.2, b.2)], _, _, _, _, by rw [List.map_append]; rfl, ⟨by rw [ek]; exact hI1.add hbox, fun q hq => ?_, fun q hq => ?_⟩, by rw [ek]; exact mem_addS.mpr (.inl hp), hnN, by simp; omega⟩
            · rw [ek]
              rcases List.mem_append.mp hq with hq | hq
              · exact mem_addS.mpr (.inl (hI2 q hq))
              · exact mem_addS.mpr (.inr (List.mem_singleton.mp hq))
            · rw [List.length_append, List.length_singleton]
              rcases List.mem_append.mp hq with hq | hq
              · have := hI3 q hq
                omega
              · rw [List.mem_singleton.mp hq]
                show (w ++ [x]).length ≤ _
                rw [List.length_append, List.length_singleton]
                omega
        · refine wb_seq (wb_if ?_)
          refine wb_eq (by simp [ix_mv0, neD_intsT, hab]; rfl) ?_
          refine wb_ret ?_
          rw [if_pos (by rfl)]
          refine wb_retS ?_
          refine wb_eq (by simp [listT_dictL, it_dictL ew]; rfl) ?_
          refine wb_grd (by unfold big; omega) ?_
          refine wb_ret ⟨_, rfl, L.map (·.1), .lst (iD (w ++ [x])), ?_, .inr ⟨_, rfl⟩⟩
          simp [iD]
      · rintro j r _ ⟨rfl, ⟨e, rfl, z⟩ | ⟨e, ⟨_, z, _⟩, _⟩ | ⟨⟨d, rfl, z⟩, _⟩⟩
        · obtain ⟨L, W, x5, x6, x7, x8, rfl, h1, h2, h3, h4⟩ := z
          exact ⟨n - 1, by omega, L, W, _, _, _, _, _, rfl, h1, h3, h4⟩
        · cases z
        · exact ⟨d, rfl, z⟩
  · rintro j r _ ⟨rfl, ⟨e, rfl, L, x3, x4, x5, x6, x7, x8, rfl⟩ | ⟨e, ⟨_, z, _⟩, _⟩ | ⟨⟨d, rfl, z⟩, _⟩⟩
    · dsimp only
      refine wb_retS ?_
      refine wb_eq (by simp [listT_dictL]; rfl) ?_
      exact wb_ret (wb_ret ⟨L.map (·.1), .non, by simp, .inl rfl⟩)
    · cases z
    · exact wb_ret z

end Gx
set_option Elab.async false
set_option linter.all false
set_option maxRecDepth 100000
set_option maxHeartbeats 2000000
namespace Gx
open PySem L2 Stp NdefX LamX Pu
open PyProof.Rows hiding St

/-! machines of one kind -/
theorem isi_nonL : isiF kTb [.non, .ty "list"] = .ret (.bl false) := by kernel_rfl
theorem neB_bl (a b : Bool) : neD (.bl a) (.bl b) = .ret (.bl (a != b)) := by cases a <;> cases b <;> kernel_rfl
theorem csk_okW {u v : Mch} (hm : v.many = u.many) (hk : v.kinds = u.kinds) : c_35.1 [objD 1 u, objD 1 v] = .ret .non := by
  delta c_35
  dsimp only
  simp [startE, N_35, e_signs (c := 1) (m := u) (by decide), e_data (c := 1) (m := u) (by decide), e_signs (c := 1) (m := v) (by decide), e_data (c := 1) (m := v) (by decide), hm, hk, isi_WW, neB_bl]
theorem csk_mmW {u v : Mch} (h : v.many ≠ u.many ∨ v.kinds ≠ u.kinds) : c_35.1 [objD 1 u, objD 1 v] = .ex (.exc 106 []) := by
  have h2 : ¬ (u.many = v.many ∧ u.kinds = v.kinds) := by omega
  delta c_35
  dsimp only
  simp [startE, N_35, e_signs (c := 1) (m := u) (by decide), e_data (c := 1) (m := u) (by decide), e_signs (c := 1) (m := v) (by decide), e_data (c := 1) (m := v) (by decide), isi_WW, neB_bl, h2]
theorem csk_okR {u v : Mch} (hm : v.many = u.many) (hk : v.kinds = u.kinds) : c_35.1 [objD 2 u, objD 2 v] = .ret .non := by
  delta c_35
  dsimp only
  simp [startE, N_35, e_signs (c := 2) (m := u) (by decide), e_data (c := 2) (m := u) (by decide), e_signs (c := 2) (m := v) (by decide), e_data (c := 2) (m := v) (by decide), hm, hk, isi_RW, neB_bl]
theorem csk_mmR {u v : Mch} (h : v.many ≠ u.many ∨ v.kinds ≠ u.kinds) : c_35.1 [objD 2 u, objD 2 v] = .ex (.exc 106 []) := by
  have h2 : ¬ (u.many = v.many ∧ u.kinds = v.kinds) := by omega
  delta c_35
  dsimp only
  simp [startE, N_35, e_signs (c := 2) (m := u) (by decide), e_data (c := 2) (m := u) (by decide), e_signs (c := 2) (m := v) (by decide), e_data (c := 2) (m := v) (by decide), isi_RW, neB_bl, h2]
theorem csk_WR {u v : Mch} : c_35.1 [objD 1 u, objD 2 v] = .ex (.exc 106 []) := by
  delta c_35
  dsimp only
  simp [startE, N_35, isi_WW, isi_RW, neB_bl]
theorem csk_RW {u v : Mch} : c_35.1 [objD 2 u, objD 1 v] = .ex (.exc 106 []) := by
  delta c_35
  dsimp only
  simp [startE, N_35, isi_WW, isi_RW, neB_bl]
theorem apart_mm {a b : D} (h : c_35.1 [a, b] = .ex (.exc 106 [])) : c_38.1 [a, b] = .ex (.exc 106 []) := by
  delta c_38
  dsimp only
  simp [startE, N_38, h]
theorem together_mm {a b : D} (h : c_35.1 [a, b] = .ex (.exc 106 [])) : c_39.1 [a, b] = .ex (.exc 106 []) := by
  delta c_39
  dsimp only
  simp [startE, N_39, h]
theorem isto_mm {a b c : D} (h : c_35.1 [a, b] = .ex (.exc 106 [])) : c_41.1 [a, b, c] = .ex (.exc 106 []) := by
  delta c_41
  dsimp only
  simp [startE, N_41, h]
theorem err_mm {a b : D} {r : Int} (h : c_35.1 [a, b] = .ex (.exc 106 [])) : c_59.1 [a, b, .int r] = .ret (.str "match") := by
  have e : c_59.1 [a, b, .int 0] = .ret (.str "match") ∧ c_59.1 [a, b, .int 1] = .ret (.str "match") ∧ c_59.1 [a, b, .int 2] = .ret (.str "match") := by
    delta c_59
    dsimp only
    refine ⟨?_, ?_, ?_⟩
    · simp [startE, N_59, apart_mm h]
      kernel_rfl
    · simp [startE, N_59, together_mm h]
      kernel_rfl
    · simp [startE, N_59, isto_mm h]
      kernel_rfl
  by_cases h0 : r = 0
  · rw [h0]; exact e.1
  · by_cases h1 : r = 1
    · rw [h1]; exact e.2.1
    · delta c_59
      dsimp only
      simp [startE, N_59, isto_mm h, h0, h1]
      kernel_rfl
theorem apart_okW {u v : Mch} (hu : WOk u) (hv : WOk v) (hm : v.many = u.many) (hk : v.kinds = u.kinds) : ∃ d, c_38.1 [objD 1 u, objD 1 v] = .ret d := by
  obtain ⟨d, e, K, r, rfl, h⟩ := e_searchW hu hv hm hk
  refine ⟨r, ?_⟩
  delta c_38
  dsimp only
  simp [startE, N_38, csk_okW hm hk, e]
  rfl
theorem together_okW {u v : Mch} (hu : WOk u) (hv : WOk v) (hm : v.many = u.many) (hk : v.kinds = u.kinds) : ∃ d, c_39.1 [objD 1 u, objD 1 v] = .ret d := by
  obtain ⟨d, e, K, r, rfl, h⟩ := e_searchW hu hv hm hk
  rcases h with rfl | ⟨w, rfl⟩
  · refine ⟨.lst ((sortP K).map pD), ?_⟩
    delta c_39
    dsimp only
    simp [startE, N_39, csk_okW hm hk, e, sorted_pairs]
  · refine ⟨.non, ?_⟩
    delta c_39
    dsimp only
    simp [startE, N_39, csk_okW hm hk, e]
theorem isto_okW {u v : Mch} (hm : v.many = u.many) (hk : v.kinds = u.kinds) : c_41.1 [objD 1 u, objD 1 v, .non] = .ret (.bl false) := by
  delta c_41
  dsimp only
  simp [startE, N_41, csk_okW hm hk, isi_nonL]
theorem err_okW {u v : Mch} {r : Int} (hu : WOk u) (hv : WOk v) (hm : v.many = u.many) (hk : v.kinds = u.kinds) : c_59.1 [objD 1 u, objD 1 v, .int r] = .ret (.str "right") := by
  obtain ⟨d1, e1⟩ := apart_okW hu hv hm hk
  obtain ⟨d2, e2⟩ := together_okW hu hv hm hk
  have e3 := isto_okW hm hk
  delta c_59
  dsimp only
  by_cases h0 : r = 0
  · simp [startE, N_59, h0, e1]
  · by_cases h1 : r = 1
    · simp [startE, N_59, h1, e2]
    · simp [startE, N_59, h0, h1, e3]
theorem apart_okR {u v : Mch} (hu : ROk u) (hv : ROk v) (hm : v.many = u.many) (hk : v.kinds = u.kinds) : ∃ d, c_38.1 [objD 2 u, objD 2 v] = .ret d := by
  obtain ⟨d, e, K, r, rfl, h⟩ := e_searchR hu hv hm hk
  refine ⟨r, ?_⟩
  delta c_38
  dsimp only
  simp [startE, N_38, csk_okR hm hk, e]
  rfl
theorem together_okR {u v : Mch} (hu : ROk u) (hv : ROk v) (hm : v.many = u.many) (hk : v.kinds = u.kinds) : ∃ d, c_39.1 [objD 2 u, objD 2 v] = .ret d := by
  obtain ⟨d, e, K, r, rfl, h⟩ := e_searchR hu hv hm hk
  rcases h with rfl | ⟨w, rfl⟩
  · refine ⟨.lst ((sortP K).map pD), ?_⟩
    delta c_39
    dsimp only
    simp [startE, N_39, csk_okR hm hk, e, sorted_pairs]
  · refine ⟨.non, ?_⟩
    delta c_39
    dsimp only
    simp [startE, N_39, csk_okR hm hk, e]
theorem isto_okR {u v : Mch} (hm : v.many = u.many) (hk : v.kinds = u.kinds) : c_41.1 [objD 2 u, objD 2 v, .non] = .ret (.bl false) := by
  delta c_41
  dsimp only
  simp [startE, N_41, csk_okR hm hk, isi_nonL]
theorem err_okR {u v : Mch} {r : Int} (hu : ROk u) (hv : ROk v) (hm : v.many = u.many) (hk : v.kinds = u.kinds) : c_59.1 [objD 2 u, objD 2 v, .int r] = .ret (.str "right") := by
  obtain ⟨d1, e1⟩ := apart_okR hu hv hm hk
  obtain ⟨d2, e2⟩ := together_okR hu hv hm hk
  have e3 := isto_okR hm hk
  delta c_59
  dsimp only
  by_cases h0 : r = 0
  · simp [startE, N_59, h0, e1]
  · by_cases h1 : r = 1
    · simp [startE, N_59, h1, e2]
    · simp [startE, N_59, h0, h1, e3]

end Gx
set_option Elab.async false
set_option linter.all false
set_option maxRecDepth 100000
set_option maxHeartbeats 2000000
namespace Gx
open PySem L2 Stp NdefX LamX Pu
open PyProof.Rows hiding St

/-! the law -/
theorem ix_lw0 {m : Mch} : ixD (lawD m) (.int 0) = .ret (.int m.many) := rfl
theorem ix_lw1 {m : Mch} : ixD (lawD m) (.int 1) = .ret (.int m.kinds) := rfl
theorem ix_du0 {w r : Mch} : ixD (duoD w r) (.int 0) = .ret (lawD w) := rfl
theorem ix_du1 {w r : Mch} : ixD (duoD w r) (.int 1) = .ret (lawD r) := rfl
def Bm (m k n : Int) : Mch := ⟨m, k, [List.replicate n.toNat ([], 0)]⟩
theorem bW_ok {m k n : Int} (m1 : 2 ≤ m) (m2 : m ≤ 6) (k1 : 1 ≤ k) (k2 : k ≤ 6) (hn : n = k + 1) : WOk (Bm m k n) := by
  refine ⟨⟨m1, m2, k1, k2⟩, ⟨by simp [Bm], by simp [Bm], fun r hr => ?_, fun r hr v hv => ?_⟩⟩
  · rw [List.mem_singleton.mp hr, List.length_replicate]
    show ((n.toNat : Nat) : Int) = k + 1
    omega
  · rw [List.mem_singleton.mp hr] at hv
    rw [List.eq_of_mem_replicate hv]
    exact ⟨by decide, Pu.Within.nil, by decide, by show (0 : Int) < 1; decide⟩
theorem bR_ok {m k n : Int} (m1 : 2 ≤ m) (m2 : m ≤ 6) (k1 : 1 ≤ k) (k2 : k ≤ 6) (hn : n = m) : ROk (Bm m k n) := by
  refine ⟨⟨m1, m2, k1, k2⟩, ⟨by simp [Bm], by simp [Bm], fun r hr => ?_, fun r hr v hv => ?_⟩⟩
  · rw [List.mem_singleton.mp hr, List.length_replicate]
    show ((n.toNat : Nat) : Int) = m
    omega
  · rw [List.mem_singleton.mp hr] at hv
    rw [List.eq_of_mem_replicate hv]
    exact ⟨by decide, Pu.Within.nil, by decide, by show (0 : Int) < 1; decide⟩
theorem mul1 {x : D} {n : Int} (h1 : 0 ≤ n) (h2 : n ≤ 100) : mulD (.lst [x]) (.int n) = .ret (.lst (List.replicate n.toNat x)) := by
  have e : ∀ k : Nat, (List.replicate k [x]).flatten = List.replicate k x := fun k => by
    induction k with
    | zero => rfl
    | succ k ih => rw [List.replicate_succ, List.flatten_cons, ih, List.replicate_succ]; rfl
  show grd (0 ≤ n ∧ n ≤ 100000 ∧ [x].length * n.toNat ≤ big) _ = _
  rw [grd_pos ⟨h1, by omega, by rw [List.length_singleton]; unfold big; omega⟩, e]
theorem b_tab {m k n : Int} : D.lst [D.lst (List.replicate n.toNat (.tup [.tup [], .int 0]))] = tabD (Bm m k n).rows := by
  simp [Bm, tabD, rowD, mvD, iD]
theorem mkW {m k n : Int} (m1 : 2 ≤ m) (m2 : m ≤ 6) (k1 : 1 ≤ k) (k2 : k ≤ 6) (hn : n = k + 1) : (c_31000.1 1 [] [.int m, .int k, .lst [.lst (List.replicate n.toNat (.tup [.tup [], .int 0]))]]).bind (fun fs => T.ret (D.obj 1 fs)) = .ret (objD 1 (Bm m k n)) := by
  have e := e_writer (bW_ok m1 m2 k1 k2 hn)
  rw [b_tab (m := m) (k := k)]
  simp only [show (Bm m k n).many = m from rfl, show (Bm m k n).kinds = k from rfl] at e
  rw [e]
  rfl
theorem mkR {m k n : Int} (m1 : 2 ≤ m) (m2 : m ≤ 6) (k1 : 1 ≤ k) (k2 : k ≤ 6) (hn : n = m) : (c_32000.1 2 [] [.int m, .int k, .lst [.lst (List.replicate n.toNat (.tup [.tup [], .int 0]))]]).bind (fun fs => T.ret (D.obj 2 fs)) = .ret (objD 2 (Bm m k n)) := by
  have e := e_reader (bR_ok m1 m2 k1 k2 hn)
  rw [b_tab (m := m) (k := k)]
  simp only [show (Bm m k n).many = m from rfl, show (Bm m k n).kinds = k from rfl] at e
  rw [e]
  rfl
def PairOk (x : D) : Prop := ∃ a b, x = .tup [a, b] ∧ c_35.1 [a, b] = .ex (.exc 106 []) ∧ c_35.1 [b, a] = .ex (.exc 106 [])
def AllP (L : List D) : Prop := ∀ x ∈ L, PairOk x
theorem AllP.app {L M : List D} (h : AllP L) (k : AllP M) : AllP (L ++ M) := fun x hx => (List.mem_append.mp hx).elim (h x) (k x)
theorem AllP.one {x : D} (h : PairOk x) : AllP [x] := fun y hy => by rw [List.mem_singleton.mp hy]; exact h
theorem pair_WR {u v : Mch} : PairOk (.tup [objD 1 u, objD 2 v]) := ⟨_, _, rfl, csk_WR, csk_RW⟩
theorem pair_W {u : Mch} {m k n : Int} (h : m ≠ u.many ∨ k ≠ u.kinds) : PairOk (.tup [objD 1 u, objD 1 (Bm m k n)]) := ⟨_, _, rfl, csk_mmW h, csk_mmW (by rcases h with h | h; exact .inl fun z => h z.symm; exact .inr fun z => h z.symm)⟩
theorem pair_R {u : Mch} {m k n : Int} (h : m ≠ u.many ∨ k ≠ u.kinds) : PairOk (.tup [objD 2 u, objD 2 (Bm m k n)]) := ⟨_, _, rfl, csk_mmR h, csk_mmR (by rcases h with h | h; exact .inl fun z => h z.symm; exact .inr fun z => h z.symm)⟩
def E_out  (env : Pu.Env) : Prop := ∃ (x2 x3 x4 x5 x6 x7 x8 x9 x10 x11 x12 : Option O), env = [none, some (.fz .pen), x2, x3, x4, x5, x6, x7, x8, x9, x10, x11, x12]
def E_w (duo : D) (many kinds : Int) (w r : D) (L : List D) (env : Pu.Env) : Prop := ∃ (x2 x5 x6 x11 x12 : Option O), env = [none, some (.fz .pen), x2, some (.fz duo), some (.ls L), x5, x6, some (.fz (.int many)), some (.fz (.int kinds)), some (.fz w), some (.fz r), x11, x12]
def E_l (duo : D) (many kinds : Int) (w r : D) (l : Int) (L : List D) (env : Pu.Env) : Prop := ∃ (x2 x6 x11 x12 : Option O), env = [none, some (.fz .pen), x2, some (.fz duo), some (.ls L), some (.fz (.int l)), x6, some (.fz (.int many)), some (.fz (.int kinds)), some (.fz w), some (.fz r), x11, x12]
def E_f (w r : D) (env : Pu.Env) : Prop := ∃ (x2 x3 x4 x5 x6 x7 x8 x11 x12 : Option O), env = [none, some (.fz .pen), x2, x3, x4, x5, x6, x7, x8, some (.fz w), some (.fz r), x11, x12]
def E_g (w r a b : D) (env : Pu.Env) : Prop := ∃ (x2 x3 x4 x5 x6 x7 x8 : Option O), env = [none, some (.fz .pen), x2, x3, x4, x5, x6, x7, x8, some (.fz w), some (.fz r), some (.fz a), some (.fz b)]
theorem ne_match : neD (.lst [.str "match", .str "match"]) (.lst [.str "match", .str "match"]) = .ret (.bl false) := by kernel_rfl
theorem ne_right : neD (.lst [.str "right", .str "right"]) (.lst [.str "right", .str "right"]) = .ret (.bl false) := by kernel_rfl
def E_p (duo : D) (many kinds : Int) (w r : D) (n : Nat) (e : Pu.Env) : Prop := ∃ L, E_w duo many kinds w r L e ∧ AllP L ∧ L.length ≤ n
theorem lawT : lawOk N_60.length 1 b_60.1 := by
  delta b_60
  dsimp only
  refine lawOk_wb 1000000000 (by decide) (wb_seq (wb_for ?_))
  refine wb_eq (by simp [lawE, N_60]; rfl) ?_
  (refine wb_ret ?_; try dsimp only)
  refine wb_forI 10000000 (fun _ => E_out) ⟨_, _, _, _, _, _, _, _, _, _, _, rfl⟩ (by decide) ?_ ?_
  · rintro j y env hy ⟨x2, x3, x4, x5, x6, x7, x8, x9, x10, x11, x12, rfl⟩
    refine ⟨_, rfl, ?_⟩
    dsimp only [List.set]
    refine wb_seq (wb_asg ?_)
    refine wb_eq (by simp; rfl) ?_
    (first | with_reducible refine wb_callB (d_duo (most := 3) (by omega) (by omega)) (by omega) ?_ | with_reducible refine wb_callX (d_duo (most := 3) (by omega) (by omega)) (by omega) ?_ | with_reducible refine wb_call (d_duo (most := 3) (by omega) (by omega)) (by omega) ?_); rintro _ ⟨w, r, rfl, hd⟩
    dsimp only [List.set]
    have m1 := hd.num.m1
    have m2 := hd.few
    have k1 := hd.num.k1
    have k2 := hd.kin
    refine wb_seq ?_
    refine wb_eq (by simp [ix_du0, ix_lw0, ix_lw1]; rfl) ?_
    (refine wb_ret ?_; try dsimp only)
    refine wb_seq ?_
    refine wb_eq (by simp [ix_du0, ix_du1, e_writer_of hd.w, e_reader_of hd.r]; rfl) ?_
    (refine wb_ret ?_; try dsimp only)
    have q1 := mkW (m := w.many + 1) (k := w.kinds) (n := w.kinds + 1) (by omega) (by omega) (by omega) (by omega) rfl
    have q2 := mkW (m := w.many) (k := w.kinds + 1) (n := w.kinds + 2) (by omega) (by omega) (by omega) (by omega) (by omega)
    have q3 := mkR (m := w.many + 1) (k := w.kinds) (n := w.many + 1) (by omega) (by omega) (by omega) (by omega) rfl
    have q4 := mkR (m := w.many) (k := w.kinds + 1) (n := w.many) (by omega) (by omega) (by omega) (by omega) rfl
    have u1 := fun x => mul1 (x := x) (n := w.kinds + 1) (by omega) (by omega)
    have u2 := fun x => mul1 (x := x) (n := w.kinds + 2) (by omega) (by omega)
    have u3 := fun x => mul1 (x := x) (n := w.many + 1) (by omega) (by omega)
    have u4 := fun x => mul1 (x := x) (n := w.many) (by omega) (by omega)
    have hrk := hd.kinds
    have hrm := hd.many
    have c1 : PairOk (.tup [objD 1 w, objD 1 (Bm (w.many + 1) w.kinds (w.kinds + 1))]) := pair_W (.inl (by omega))
    have c2 : PairOk (.tup [objD 1 w, objD 1 (Bm w.many (w.kinds + 1) (w.kinds + 2))]) := pair_W (.inr (by omega))
    have c3 : PairOk (.tup [objD 2 r, objD 2 (Bm (w.many + 1) w.kinds (w.many + 1))]) := pair_R (.inl (by omega))
    have c4 : PairOk (.tup [objD 2 r, objD 2 (Bm w.many (w.kinds + 1) w.many)]) := pair_R (.inr (by omega))
    refine wb_cut (c := 0) (E_p (duoD w r) w.many w.kinds (objD 1 w) (objD 2 r) 2) ?_ (by omega) ?_
    · refine wb_eq (by simp [u1, q1]; rfl) ?_
      refine wb_ret ⟨_, rfl, [_, _], ⟨_, _, _, _, _, rfl⟩, (AllP.one (pair_WR (u := w) (v := r))).app (AllP.one c1), by simp⟩
    rintro e ⟨L, hE, aL, nL⟩
    obtain ⟨x2, x5, x6, x11, x12, rfl⟩ := hE
    refine wb_cut (c := 0) (E_p (duoD w r) w.many w.kinds (objD 1 w) (objD 2 r) (2 + 1)) ?_ (by omega) ?_
    · refine wb_eq (by simp [u2, q2]; rfl) ?_
      refine wb_grd (by unfold big; omega) ?_
      refine wb_ret ⟨_, rfl, L ++ [_], ⟨_, _, _, _, _, rfl⟩, aL.app (AllP.one c2), by simp; omega⟩
    rintro e ⟨L, hE, aL, nL⟩
    obtain ⟨x2, x5, x6, x11, x12, rfl⟩ := hE
    refine wb_cut (c := 0) (E_p (duoD w r) w.many w.kinds (objD 1 w) (objD 2 r) (3 + 1)) ?_ (by omega) ?_
    · refine wb_eq (by simp [u3, q3]; rfl) ?_
      refine wb_grd (by unfold big; omega) ?_
      refine wb_ret ⟨_, rfl, L ++ [_], ⟨_, _, _, _, _, rfl⟩, aL.app (AllP.one c3), by simp; omega⟩
    rintro e ⟨L, hE, aL, nL⟩
    obtain ⟨x2, x5, x6, x11, x12, rfl⟩ := hE
    refine wb_cut (c := 0) (E_p (duoD w r) w.many w.kinds (objD 1 w) (objD 2 r) (4 + 1)) ?_ (by omega) ?_
    · refine wb_eq (by simp [u4, q4]; rfl) ?_
      refine wb_grd (by unfold big; omega) ?_
      refine wb_ret ⟨_, rfl, L ++ [_], ⟨_, _, _, _, _, rfl⟩, aL.app (AllP.one c4), by simp; omega⟩
    rintro e ⟨L, hE, aL, nL⟩
    obtain ⟨x2, x5, x6, x11, x12, rfl⟩ := hE
    refine wb_cut (c := 0) (fun e => ∃ l : Int, 1 ≤ l ∧ l ≤ 4 ∧ l ≠ w.kinds ∧ E_l (duoD w r) w.many w.kinds (objD 1 w) (objD 2 r) l L e) ?_ (by omega) ?_
    · by_cases h : 1 < w.kinds
      · refine wb_eq (by simp [h]; rfl) ?_
        exact wb_ret ⟨_, rfl, w.kinds - 1, by omega, by omega, by omega, ⟨_, _, _, _, rfl⟩⟩
      · refine wb_eq (by simp [h]; rfl) ?_
        exact wb_ret ⟨_, rfl, w.kinds + 1, by omega, by omega, by omega, ⟨_, _, _, _, rfl⟩⟩
    rintro e ⟨l, l1, l2, l3, hE⟩
    obtain ⟨x2, x6, x11, x12, rfl⟩ := hE
    have q5 := mkW (m := w.many + 1) (k := l) (n := l + 1) (by omega) (by omega) (by omega) (by omega) rfl
    have q6 := mkR (m := w.many + 1) (k := l) (n := w.many + 1) (by omega) (by omega) (by omega) (by omega) rfl
    have u5 := fun x => mul1 (x := x) (n := l + 1) (by omega) (by omega)
    have c5 : PairOk (.tup [objD 1 w, objD 1 (Bm (w.many + 1) l (l + 1))]) := pair_W (.inl (by omega))
    have c6 : PairOk (.tup [objD 2 r, objD 2 (Bm (w.many + 1) l (w.many + 1))]) := pair_R (.inl (by omega))
    refine wb_cut (c := 0) (fun e => ∃ M, E_l (duoD w r) w.many w.kinds (objD 1 w) (objD 2 r) l M e ∧ AllP M ∧ M.length ≤ 6) ?_ (by omega) ?_
    · refine wb_eq (by simp [u5, q5]; rfl) ?_
      refine wb_grd (by unfold big; omega) ?_
      refine wb_ret ⟨_, rfl, L ++ [_], ⟨_, _, _, _, rfl⟩, aL.app (AllP.one c5), by simp; omega⟩
    rintro e ⟨L, hE, aL, nL⟩
    obtain ⟨x2, x6, x11, x12, rfl⟩ := hE
    refine wb_cut (c := 0) (E_p (duoD w r) w.many w.kinds (objD 1 w) (objD 2 r) 7) ?_ (by omega) ?_
    · refine wb_eq (by simp [u3, q6]; rfl) ?_
      refine wb_grd (by unfold big; omega) ?_
      refine wb_ret ⟨_, rfl, L ++ [_], ⟨_, _, _, _, _, rfl⟩, aL.app (AllP.one c6), by simp; omega⟩
    rintro e ⟨L, hE, aL, nL⟩
    obtain ⟨x2, x5, x6, x11, x12, rfl⟩ := hE
    refine wb_cut (c := 0) (fun e => ∃ l : Int, 2 ≤ l ∧ l ≤ 5 ∧ l ≠ w.many ∧ E_l (duoD w r) w.many w.kinds (objD 1 w) (objD 2 r) l L e) ?_ (by omega) ?_
    · by_cases h : 2 < w.many
      · refine wb_eq (by simp [h]; rfl) ?_
        exact wb_ret ⟨_, rfl, w.many - 1, by omega, by omega, by omega, ⟨_, _, _, _, rfl⟩⟩
      · refine wb_eq (by simp [h]; rfl) ?_
        exact wb_ret ⟨_, rfl, w.many + 1, by omega, by omega, by omega, ⟨_, _, _, _, rfl⟩⟩
    rintro e ⟨l, l1, l2, l3, hE⟩
    obtain ⟨x2, x6, x11, x12, rfl⟩ := hE
    have q7 := mkW (m := l) (k := w.kinds + 1) (n := w.kinds + 2) (by omega) (by omega) (by omega) (by omega) (by omega)
    have q8 := mkR (m := l) (k := w.kinds + 1) (n := l) (by omega) (by omega) (by omega) (by omega) rfl
    have u8 := fun x => mul1 (x := x) (n := l) (by omega) (by omega)
    have c7 : PairOk (.tup [objD 1 w, objD 1 (Bm l (w.kinds + 1) (w.kinds + 2))]) := pair_W (.inl (by omega))
    have c8 : PairOk (.tup [objD 2 r, objD 2 (Bm l (w.kinds + 1) l)]) := pair_R (.inl (by omega))
    refine wb_cut (c := 0) (fun e => ∃ M, E_l (duoD w r) w.many w.kinds (objD 1 w) (objD 2 r) l M e ∧ AllP M ∧ M.length ≤ 8) ?_ (by omega) ?_
    · refine wb_eq (by simp [u2, q7]; rfl) ?_
      refine wb_grd (by unfold big; omega) ?_
      refine wb_ret ⟨_, rfl, L ++ [_], ⟨_, _, _, _, rfl⟩, aL.app (AllP.one c7), by simp; omega⟩
    rintro e ⟨L, hE, aL, nL⟩
    obtain ⟨x2, x6, x11, x12, rfl⟩ := hE
    refine wb_cut (c := 0) (E_p (duoD w r) w.many w.kinds (objD 1 w) (objD 2 r) 9) ?_ (by omega) ?_
    · refine wb_eq (by simp [u8, q8]; rfl) ?_
      refine wb_grd (by unfold big; omega) ?_
      refine wb_ret ⟨_, rfl, L ++ [_], ⟨_, _, _, _, _, rfl⟩, aL.app (AllP.one c8), by simp; omega⟩
    rintro e ⟨L, hE, aL, nL⟩
    obtain ⟨x2, x5, x6, x11, x12, rfl⟩ := hE
    have hdw := hd.w
    have hdr := hd.r
    refine wb_seq (wb_for ?_)
    refine wb_eq (by simp [frzE]; rfl) ?_
    (refine wb_ret ?_; try dsimp only)
    refine wb_forI 0 (fun _ => E_f (objD 1 w) (objD 2 r)) ⟨_, _, _, _, _, _, _, _, _, rfl⟩ (by omega) ?_ ?_
    · rintro j d env hd ⟨x2, x3, x4, x5, x6, x7, x8, x11, x12, rfl⟩
      obtain ⟨a, b, rfl, h1, h2⟩ := aL d (List.mem_of_getElem? hd)
      refine ⟨_, rfl, ?_⟩
      dsimp only [List.set, putL]
      refine wb_for ?_
      refine wb_eq (by simp; rfl) ?_
      (refine wb_ret ?_; try dsimp only)
      refine wb_forI 0 (fun _ => E_g (objD 1 w) (objD 2 r) a b) ⟨_, _, _, _, _, _, _, rfl⟩ (by omega) ?_ ?_
      · rintro j d env hd ⟨x2, x3, x4, x5, x6, x7, x8, rfl⟩
        obtain ⟨hj, rfl⟩ := rngL_at _ _ _ _ hd
        refine ⟨_, rfl, ?_⟩
        dsimp only [List.set]
        refine wb_ifno ?_ (wb_ret ⟨_, _, _, _, _, _, _, rfl⟩)
        simp [err_mm h1, err_mm h2, ne_match]
      · rintro e ⟨x2, x3, x4, x5, x6, x7, x8, rfl⟩
        exact ⟨_, _, _, _, _, _, _, _, _, rfl⟩
    · rintro e ⟨x2, x3, x4, x5, x6, x7, x8, x11, x12, rfl⟩
      dsimp only
      refine wb_for ?_
      refine wb_eq (by simp; rfl) ?_
      (refine wb_ret ?_; try dsimp only)
      refine wb_forI 0 (fun _ => E_f (objD 1 w) (objD 2 r)) ⟨_, _, _, _, _, _, _, _, _, rfl⟩ (by omega) ?_ ?_
      · rintro j d env hd ⟨x2, x3, x4, x5, x6, x7, x8, x11, x12, rfl⟩
        obtain ⟨hj, rfl⟩ := rngL_at _ _ _ _ hd
        refine ⟨_, rfl, ?_⟩
        dsimp only [List.set]
        refine wb_ifno ?_ (wb_ret ⟨_, _, _, _, _, _, _, _, _, rfl⟩)
        simp [err_okW hdw hdw rfl rfl, err_okR hdr hdr rfl rfl, ne_right]
      · rintro e ⟨x2, x3, x4, x5, x6, x7, x8, x11, x12, rfl⟩
        exact ⟨_, _, _, _, _, _, _, _, _, _, _, rfl⟩
  · rintro e ⟨x2, x3, x4, x5, x6, x7, x8, x9, x10, x11, x12, rfl⟩
    dsimp only
    refine wb_retS ?_
    refine wb_eq (by simp; rfl) ?_
    exact wb_ret rfl

end Gx
set_option Elab.async false
set_option linter.all false
set_option maxRecDepth 100000
open PySem PySem.W PyProof.Rows in
set_option maxRecDepth 100000 in
set_option maxHeartbeats 0 in
theorem PySem.Challenge.cw_stepsagain_k47_errors_of_the_same_holds : PySem.Challenge.rw_stepsagain_k47_errors_of_the_same.Holds :=
  Gx.holds Gx.lawT
