import PyProof.Rows.All
import Wide.All
import OpenK.AllK
import Wide.FinOn
import HandS.Head0
import HandS.Head1
import HandS.Head2
import HandS.HeadHook1
import HandS.HeadHook2
import HandS.HeadHook3
import HandS.HeadHook4
import HandS.Style
import HandS.Words
import HandS.Codes
import HandS.Nested
import KE.KeyNested
import PyProof.DictRoadsH
import KE.KDictWalk
import HandS.ForMost
import HandS.ForExc
import HandS.CallSlots
import HandS.IsInst
import HandS.TupAny
import HandS.TupMul
import HandS.Deep
import HandS.Comp
import PyProof.ListMulRoad
import PyProof.FactsAll.tuple_2
import HandS.WordsDict
import HandS.Iter
import HandS.NoneIn
import PyProof.AutoSeq1
import HandS.TupLen
import HandS.Conv
import HandS.ClsMeth
import HandS.Property
import HandS.OwnEq
import PyProof.InstNe
import KE.KExcIs
import HandS.Lambda
import HandS.ExcOwn
import PyProof.ReprRoads
import HandS.EndTab
import HandS.Star
import HandS.Sort
import HandS.SortRule
import KE.KDictDisplayH
import KE.KSortTupAny
import KE.GoesEnumKw
import HandS.Flt
import HandS.Zip
import KE.GoesEnum
import KE.DataMinMax
import HandS.SortInts
import PyProof.Rows.SeqRoads
import KE.KEqDict
import KE.KDictCopyH
import KE.KDictPairs
import HandS.DictComp
import HandS.TupSets
import HandS.FStr
import HandS.Text
import KE.GoesMore
import PyProof.Rows.CallKwBuiltin
import KE.DatumOrd
import PyProof.ReprBulk
import PyProof.FitsInt
import PySem.Challenge.RW_stepsagain_k08_texts_of_machines
set_option Elab.async false
set_option linter.all false
set_option maxRecDepth 100000
set_option maxHeartbeats 2000000
namespace Pu
open PySem L2
open PyProof.Rows hiding St
inductive KT where
  | b (n : String) | c (k : Nat)
deriving DecidableEq
abbrev KTab := KT → KT → Option Bool
abbrev Fg := PySem.W.Frag
structure PD where
  at_ : Fg → Addr
  name : Str
  qual : Str
  st : Stmt
def fdAt (K : Fg) (f : Addr) : FuncData := match K.lookup f with
  | some ⟨_, _, .func fd, _⟩ => fd
  | _ => default
abbrev FSig : Type := Option (Str × Str × Arguments × FuncBody × Scope × Addr × List (Str × Addr) × Value × Addr)
def fdSig (fd : FuncData) : FSig := some (fd.name, fd.qualname, fd.params, fd.body, fd.scope, fd.globals, fd.closure, fd.defaults, fd.builtins)
def PD.val (d : PD) : FSig := some (d.name, d.qual, defArgs d.st, .stmts (defBody d.st), defScope d.st, mainGlobals, [], .none, builtinsNs)
def PD.obs (K : Fg) (d : PD) : FSig := match K.lookup (d.at_ K) with
  | some ⟨_, _, .func fd, _⟩ => fdSig fd
  | _ => none
def PD.ok (K : Fg) (d : PD) : Bool := PySem.W.keepIn K (.ref (d.at_ K)) && PySem.W.codeIn K (fdAt K (d.at_ K)).code d.qual
/-- the addresses met from the main globals on, level by level; what is met stands in the bits of a number (each new number is forced: the kernel runs this) -/
def newU {α : Type} (k : Nat → List Addr → α) : List Addr → Nat → List Addr → α
  | [], m, acc => k m acc
  | r :: rs, m, acc => HandSHeadRun.frNat r fun r => match Nat.beq (Nat.land (Nat.shiftRight m r) 1) 0 with
    | true => HandSHeadRun.frNat (Nat.lor m (Nat.shiftLeft 1 r)) fun m => newU k rs m (r :: acc)
    | false => newU k rs m acc
def lvU (g : Addr → Option Obj) : Nat → List Addr → Nat → List Addr → List Addr
  | 0, _, _, al => al
  | n + 1, fr, m, al => newU (fun m nw => lvU g n nw m (al ++ nw)) (fr.flatMap fun a => match g a with
    | some o => He.refsD o
    | none => []) m []
def asU (g : Addr → Option Obj) (n : Nat) : List Addr := lvU g n [mainGlobals] (Nat.shiftLeft 1 mainGlobals) [mainGlobals] ++ [cStatics]
structure SaysU (fn : List PD) (tf : List He.Defn) (ex : List (Fg → Bool)) (h : Heap) (K : Fg) : Prop where
  fs : fn.map (PD.obs K) = fn.map PD.val
  fk : ∀ d ∈ fn, d.ok K = true
  ex : ∀ c ∈ ex, c K = true
  hd : ∀ p ∈ tf, PySem.W.codeHdIn K (He.cT K p).1 (He.cT K p).2 = true
  out : ∀ p ∈ tf, K.lookup (He.cT K p).2 = none
  empty : ∀ p ∈ tf, h.get? (He.cT K p).2 = some { cls := .none, data := .fields #[] }
def obsU (n : Nat) (fn : List PD) (tf : List He.Defn) (ex : List (Fg → Bool)) (g : Addr → Option Obj) : List FSig × Bool :=
  let K := He.frT g (asU g n)
  (fn.map (PD.obs K), (fn.all fun d => d.ok K) && ((ex.all fun c => c K) && He.tabsB g tf K))
theorem saysU_of {n : Nat} {fn : List PD} {tf : List He.Defn} {ex : List (Fg → Bool)} {h : Heap} (e : obsU n fn tf ex h.get? = (fn.map PD.val, true)) : SaysU fn tf ex h (He.frT h.get? (asU h.get? n)) := by
  generalize eK : He.frT h.get? (asU h.get? n) = K
  have e1 : fn.map (PD.obs K) = fn.map PD.val := by
    rw [← eK]
    exact congrArg (fun z => z.1) e
  have e2 : ((fn.all fun d => d.ok K) && ((ex.all fun c => c K) && He.tabsB h.get? tf K)) = true := by
    rw [← eK]
    exact congrArg (fun z => z.2) e
  obtain ⟨h1, h2⟩ := Bool.and_eq_true_iff.mp e2
  obtain ⟨h2, h3⟩ := Bool.and_eq_true_iff.mp h2
  have key : ∀ p ∈ tf, PySem.W.codeHdIn K (He.cT K p).1 (He.cT K p).2 = true ∧ ∃ o, h.get? (He.cT K p).2 = some o ∧ He.emptyTab o = true := fun p hp => by
    obtain ⟨a1, a2⟩ := Bool.and_eq_true_iff.mp (List.all_eq_true.mp h3 p hp)
    refine ⟨a1, ?_⟩
    cases q : h.get? (He.cT K p).2 with
    | none =>
      rw [q] at a2
      cases a2
    | some o =>
      rw [q] at a2
      exact ⟨o, rfl, a2⟩
  refine ⟨e1, List.all_eq_true.mp h1, List.all_eq_true.mp h2, fun p hp => (key p hp).1, fun p hp => ?_, fun p hp => ?_⟩
  · obtain ⟨_, o, q, z⟩ := key p hp
    rw [← eK] at q ⊢
    exact He.frT_none q z
  · obtain ⟨_, o, q, z⟩ := key p hp
    rw [q, He.emptyTab_eq z]
def hookU (n : Nat) (fn : List PD) (tf : List He.Defn) (ex : List (Fg → Bool)) : PySem.W.Hook where
  α := List FSig × Bool
  obs := fun s => obsU n fn tf ex s.heap.get?
  val := fun _ => (fn.map PD.val, true)
  says := fun _ h => ∃ K : Fg, K.In h ∧ SaysU fn tf ex h K
  of := fun _ _ e => ⟨_, He.frT_in, saysU_of e⟩
  keeps := fun _ _ _ ⟨K, hK, c⟩ k => ⟨K, PySem.W.Frag.In.keeps hK k, ⟨c.fs, c.fk, c.ex, c.hd, c.out, fun p hp => k _ _ (c.empty p hp)⟩⟩
theorem obsU_eq {n : Nat} {fn : List PD} {tf : List He.Defn} {ex : List (Fg → Bool)} {g : Addr → Option Obj} {s : Shared} (h : ∀ a, g a = s.heap.get? a) : obsU n fn tf ex g = (hookU n fn tf ex).obs s := by
  obtain rfl : g = s.heap.get? := funext h
  rfl
open He
def insB (x : Str) (K : Fg) : Bool := (Fa.cls x).ok K && (eqO (PySem.W.findIn K (.ref (ga K x)) "__class__") (some (some (.builtin "object.__class__"))) && (eqO (PySem.W.specialIn K (.builtin "object.__class__") "__get__") (some (some (.builtin "getset_descriptor.__get__"))) &&
  (decide (PySem.W.takesIn K (.builtin "object.__class__") = some true) && decide (PySem.W.mroIn K (ga K x) (.type "object") = some true))))
def isxB (x : Str) (K : Fg) : Bool := (PySem.W.clsIn K (ga K x)).isSome && (eqO (PySem.W.findIn K (.ref (ga K x)) "__getattribute__") (some (some (.builtin "BaseException.__getattribute__"))) && (eqO (PySem.W.findIn K (.ref (ga K x)) "__getattr__") (some none) &&
  (decide (PySem.W.subIn K (.ref (ga K x)) (.type "BaseException") = some true) && (eqO (PySem.W.findIn K (.ref (ga K x)) "__class__") (some (some (.builtin "object.__class__"))) && (eqO (PySem.W.specialIn K (.builtin "object.__class__") "__get__") (some (some (.builtin "getset_descriptor.__get__"))) &&
  (decide (PySem.W.takesIn K (.builtin "object.__class__") = some true) && decide (PySem.W.mroIn K (ga K x) (.type "object") = some true)))))))
def gAd (x f : Str) (K : Fg) : Addr := match PySem.W.recIn K (He.ma K (He.ga K x) f) "property" with
  | some (.ref g :: _) => g
  | _ => 0
def mAd (x m : Str) (K : Fg) : Addr := He.ma K (He.ga K x) m
def fnAd (x : Str) (K : Fg) : Addr := He.ga K x
def propB (x y f : Str) (K : Fg) : Bool := eqO (PySem.W.findIn K (.ref (ga K x)) f) (some (some (.ref (mAd y f K)))) && (eqO (PySem.W.specialIn K (.ref (mAd y f K)) "__get__") (some (some (.builtin "property.__get__"))) && (decide (PySem.W.takesIn K (.ref (mAd y f K)) = some true) &&
  (match PySem.W.recIn K (mAd y f K) "property" with
  | some (.ref g :: _) => decide (g = gAd y f K)
  | _ => false)))
def methB (x y m : Str) (K : Fg) : Bool := eqO (PySem.W.findIn K (.ref (ga K x)) m) (some (some (.ref (mAd y m K)))) && (PySem.W.isFn K (.ref (mAd y m K)) && PySem.W.keepIn K (.ref (mAd y m K)))
def mkrB (x y : Str) (K : Fg) : Bool := PySem.W.makesIn K (ga K x) && (methB x y "__init__" K && PySem.W.keepIn K (.ref (ga K x)))
def clfB (x m : Str) (K : Fg) : Bool := PySem.W.readsIn K (ga K x) (.type "type") && (eqO (PySem.W.specialIn K (.ref (ga K x)) "__getattribute__") (some (some (.builtin "type.__getattribute__"))) && (PySem.W.keepIn K (.ref (mAd x m K)) &&
  (match PySem.W.findCls K (.ref (ga K x)) (.type "type") m with
  | some (.val (.ref f)) => decide (f = mAd x m K)
  | _ => false)))
def cNames (tb : List (Nat × Str)) (K : Fg) (c : Nat) : Option Addr := (tb.lookup c).map (He.ga K)
def ktOf (tb : List (Nat × Str)) (K : Fg) : KT → Option Value
  | .b n => some (.type n)
  | .c k => (cNames tb K k).map Value.ref
abbrev KRow := (KT × KT) × Bool
def tabK (rows : List KRow) : KTab := fun a b => rows.lookup (a, b)
def kitB (tb : List (Nat × Str)) (r : KRow) (K : Fg) : Bool := match ktOf tb K r.1.1, ktOf tb K r.1.2 with
  | some va, some vb => decide (PySem.W.kitOne K va vb = some r.2)
  | _, _ => false
def codeB (p : He.Defn) (K : Fg) : Bool := match (fdAt K (He.fAd K p)).code with
  | .ref c => decide (c = He.codeOf K p)
  | _ => false
def eqB (tb : List (Nat × Str)) (x y : Str) (tys : List KT) (K : Fg) : Bool := He.eqO (PySem.W.findIn K (.ref (He.ga K x)) "__eq__") (some (some (.ref (mAd y "__eq__" K)))) && (PySem.W.isFn K (.ref (mAd y "__eq__" K)) && (He.eqO (PySem.W.findIn K (.ref (He.ga K x)) "__ne__") (some (some (.builtin "object.__ne__"))) &&
  (decide (PySem.W.subIn K (.ref (He.ga K x)) (.type "object") = some true) && tys.all fun t => match ktOf tb K t with
    | some tv => PySem.W.notFirst K (He.ga K x) tv
    | none => false)))
structure LamD where
  qual : Str
  params : Arguments
  body : Expr
  scope : Scope
  fr : List Str
def lamZ : Arguments × Expr × Scope := (⟨[], [], none, [], [], none, []⟩, Expr.Constant .none 0 ⟨0, 0, 0, 0⟩, ⟨.function, [], false, false, []⟩)
def mdEs : List (Int × Str) → List DictEntry → Bool
  | [], [] => true
  | (i, x) :: kvs, ⟨h, .int j _, .str y _⟩ :: es => decide (h = hashInt i) && (decide (i = j) && (decide (x = y) && mdEs kvs es))
  | _, _ => false
def mdB (x : Str) (kvs : List (Int × Str)) (K : Fg) : Bool := (He.Fa.glo x).ok K && (!(He.ga K x == sysModules) && (match K.lookup (He.ga K x) with
  | some ⟨.type c, none, .dict es _, sl⟩ => decide (c = "dict") && (sl.isEmpty && mdEs kvs es.toList)
  | _ => false))
end Pu
set_option Elab.async false
set_option linter.all false
set_option maxRecDepth 100000
set_option maxHeartbeats 4000000
namespace Gx
open PySem L2 NdefX Pu
open PyProof.Rows hiding St
def top (i : Nat) : Stmt := PySem.Challenge.pw_stepsagain_k08_texts_of_machines.main.body.getD i (.Pass ⟨0, 0, 0, 0⟩)
def cTab : List (Nat × Str) := [(0, "Machine"), (1, "Writer"), (2, "Reader"), (3, "Kind"), (102, "InvalidWriter"), (103, "InvalidReader")]
def kRows0 : List KRow := [((.b "int", .c 2), false), ((.b "int", .c 1), false), ((.b "int", .b "bool"), false), ((.b "int", .b "int"), true), ((.b "int", .b "list"), false), ((.b "int", .b "str"), false), ((.b "int", .b "tuple"), false), ((.b "bool", .c 2), false), ((.b "bool", .c 1), false), ((.b "bool", .b "bool"), true), ((.b "bool", .b "int"), true), ((.b "bool", .b "list"), false), ((.b "bool", .b "str"), false), ((.b "bool", .b "tuple"), false), ((.b "str", .c 2), false), ((.b "str", .c 1), false), ((.b "str", .b "bool"), false), ((.b "str", .b "int"), false), ((.b "str", .b "list"), false), ((.b "str", .b "str"), true), ((.b "str", .b "tuple"), false), ((.b "list", .c 2), false), ((.b "list", .c 1), false), ((.b "list", .b "bool"), false), ((.b "list", .b "int"), false), ((.b "list", .b "list"), true), ((.b "list", .b "str"), false), ((.b "list", .b "tuple"), false), ((.b "tuple", .c 2), false), ((.b "tuple", .c 1), false)]
def kRows1 : List KRow := [((.b "tuple", .b "bool"), false), ((.b "tuple", .b "int"), false), ((.b "tuple", .b "list"), false), ((.b "tuple", .b "str"), false), ((.b "tuple", .b "tuple"), true), ((.b "dict", .c 2), false), ((.b "dict", .c 1), false), ((.b "dict", .b "bool"), false), ((.b "dict", .b "int"), false), ((.b "dict", .b "list"), false), ((.b "dict", .b "str"), false), ((.b "dict", .b "tuple"), false), ((.b "NoneType", .c 2), false), ((.b "NoneType", .c 1), false), ((.b "NoneType", .b "bool"), false), ((.b "NoneType", .b "int"), false), ((.b "NoneType", .b "list"), false), ((.b "NoneType", .b "str"), false), ((.b "NoneType", .b "tuple"), false), ((.c 0, .c 2), false), ((.c 0, .c 1), false), ((.c 0, .b "bool"), false), ((.c 0, .b "int"), false), ((.c 0, .b "list"), false), ((.c 0, .b "str"), false), ((.c 0, .b "tuple"), false), ((.c 1, .c 2), false), ((.c 1, .c 1), true), ((.c 1, .b "bool"), false), ((.c 1, .b "int"), false)]
def kRows2 : List KRow := [((.c 1, .b "list"), false), ((.c 1, .b "str"), false), ((.c 1, .b "tuple"), false), ((.c 2, .c 2), true), ((.c 2, .c 1), false), ((.c 2, .b "bool"), false), ((.c 2, .b "int"), false), ((.c 2, .b "list"), false), ((.c 2, .b "str"), false), ((.c 2, .b "tuple"), false), ((.c 3, .c 2), false), ((.c 3, .c 1), false), ((.c 3, .b "bool"), false), ((.c 3, .b "int"), false), ((.c 3, .b "list"), false), ((.c 3, .b "str"), false), ((.c 3, .b "tuple"), false), ((.c 102, .c 2), false), ((.c 102, .c 1), false), ((.c 102, .b "bool"), false), ((.c 102, .b "int"), false), ((.c 102, .b "list"), false), ((.c 102, .b "str"), false), ((.c 102, .b "tuple"), false), ((.c 103, .c 2), false), ((.c 103, .c 1), false), ((.c 103, .b "bool"), false), ((.c 103, .b "int"), false), ((.c 103, .b "list"), false), ((.c 103, .b "str"), false)]
def kRows3 : List KRow := [((.c 103, .b "tuple"), false)]
def kRows : List KRow := kRows0 ++ kRows1 ++ kRows2 ++ kRows3
def kTb : KTab := tabK kRows
def eTys : List KT := [.b "int", .b "bool", .b "str", .b "list", .b "tuple", .b "dict", .b "NoneType", .c 0, .c 1, .c 2, .c 3]
abbrev s_8 : Stmt := top 8
abbrev s_9 : Stmt := top 9
abbrev s_10 : Stmt := top 10
abbrev s_20 : Stmt := top 20
abbrev s_21 : Stmt := top 21
abbrev s_22 : Stmt := top 22
abbrev s_23 : Stmt := top 23
abbrev s_24 : Stmt := top 24
abbrev s_32 : Stmt := top 32
abbrev s_25003 : Stmt := (C8.clsBody (top 25)).getD 3 (.Pass ⟨0, 0, 0, 0⟩)
abbrev s_25001 : Stmt := (C8.clsBody (top 25)).getD 1 (.Pass ⟨0, 0, 0, 0⟩)
abbrev s_25002 : Stmt := (C8.clsBody (top 25)).getD 2 (.Pass ⟨0, 0, 0, 0⟩)
abbrev s_33 : Stmt := top 33
abbrev s_34 : Stmt := top 34
abbrev s_35 : Stmt := top 35
abbrev s_36 : Stmt := top 36
abbrev s_37 : Stmt := top 37
abbrev s_38 : Stmt := top 38
abbrev s_40 : Stmt := top 40
abbrev s_39001 : Stmt := (C8.clsBody (top 39)).getD 1 (.Pass ⟨0, 0, 0, 0⟩)
abbrev s_41 : Stmt := top 41
abbrev s_42 : Stmt := top 42
abbrev s_39000 : Stmt := (C8.clsBody (top 39)).getD 0 (.Pass ⟨0, 0, 0, 0⟩)
abbrev s_25000 : Stmt := (C8.clsBody (top 25)).getD 0 (.Pass ⟨0, 0, 0, 0⟩)
abbrev s_26000 : Stmt := (C8.clsBody (top 26)).getD 0 (.Pass ⟨0, 0, 0, 0⟩)
abbrev s_43 : Stmt := top 43
abbrev s_27000 : Stmt := (C8.clsBody (top 27)).getD 0 (.Pass ⟨0, 0, 0, 0⟩)
abbrev s_44 : Stmt := top 44
abbrev s_50 : Stmt := top 50
abbrev s_51 : Stmt := top 51
abbrev s_52 : Stmt := top 52
abbrev s_53 : Stmt := top 53
abbrev s_54 : Stmt := top 54
abbrev s_55 : Stmt := top 55
abbrev s_56 : Stmt := top 56
abbrev s_57 : Stmt := top 57
abbrev s_58 : Stmt := top 58
abbrev s_59 : Stmt := top 59
abbrev s_26004 : Stmt := (C8.clsBody (top 26)).getD 4 (.Pass ⟨0, 0, 0, 0⟩)
abbrev s_27004 : Stmt := (C8.clsBody (top 27)).getD 4 (.Pass ⟨0, 0, 0, 0⟩)
abbrev s_60 : Stmt := top 60
def la_3 : Arguments × Expr × Scope := match (defBody s_26000).getD 1 (.Pass ⟨0, 0, 0, 0⟩) with
  | .If (.UnaryOp _ (.Call _ (_ :: .Lambda p b s _ :: _) _ _) _) _ _ _ => (p, b, s)
  | _ => lamZ
def l_3 : LamD := ⟨"Writer.__init__.<locals>.<lambda>", la_3.1, la_3.2.1, la_3.2.2, ["signs"]⟩
def la_4 : Arguments × Expr × Scope := match (defBody s_27000).getD 1 (.Pass ⟨0, 0, 0, 0⟩) with
  | .If (.UnaryOp _ (.Call _ (_ :: .Lambda p b s _ :: _) _ _) _) _ _ _ => (p, b, s)
  | _ => lamZ
def l_4 : LamD := ⟨"Reader.__init__.<locals>.<lambda>", la_4.1, la_4.2.1, la_4.2.2, ["data"]⟩
def la_1 : Arguments × Expr × Scope := match (defBody s_43).getD 2 (.Pass ⟨0, 0, 0, 0⟩) with
  | .Assign _ (.Call _ (_ :: _ :: _ :: .Lambda p b s _ :: _) _ _) _ => (p, b, s)
  | _ => lamZ
def l_1 : LamD := ⟨"parse_writer.<locals>.<lambda>", la_1.1, la_1.2.1, la_1.2.2, ["signs"]⟩
def la_2 : Arguments × Expr × Scope := match (defBody s_44).getD 2 (.Pass ⟨0, 0, 0, 0⟩) with
  | .Assign _ (.Call _ (_ :: _ :: _ :: .Lambda p b s _ :: _) _ _) _ => (p, b, s)
  | _ => lamZ
def l_2 : LamD := ⟨"parse_reader.<locals>.<lambda>", la_2.1, la_2.2.1, la_2.2.2, ["data"]⟩
def nm_26000 : Nat → Nat → Str := fun _ _ => "Writer.__init__.<locals>.<lambda>"
def nm_43 : Nat → Nat → Str := fun _ _ => "parse_writer.<locals>.<lambda>"
def nm_27000 : Nat → Nat → Str := fun _ _ => "Reader.__init__.<locals>.<lambda>"
def nm_44 : Nat → Nat → Str := fun _ _ => "parse_reader.<locals>.<lambda>"
def tfL : List He.Defn := [("Writer", some "__init__"), ("parse_writer", none), ("Reader", some "__init__"), ("parse_reader", none)]
def pd_0 : PD := ⟨fnAd "is_integer", "is_integer", "is_integer", top 8⟩
def pd_1 : PD := ⟨fnAd "is_below", "is_below", "is_below", top 9⟩
def pd_2 : PD := ⟨fnAd "is_word", "is_word", "is_word", top 10⟩
def pd_3 : PD := ⟨fnAd "are_numbers", "are_numbers", "are_numbers", top 20⟩
def pd_4 : PD := ⟨fnAd "are_events", "are_events", "are_events", top 21⟩
def pd_5 : PD := ⟨fnAd "is_move", "is_move", "is_move", top 22⟩
def pd_6 : PD := ⟨fnAd "is_row", "is_row", "is_row", top 23⟩
def pd_7 : PD := ⟨fnAd "are_rows", "are_rows", "are_rows", top 24⟩
def pd_8 : PD := ⟨fnAd "joined", "joined", "joined", top 32⟩
def pd_9 : PD := ⟨gAd "Machine" "rows", "rows", "Machine.rows", (C8.clsBody (top 25)).getD 3 (.Pass ⟨0, 0, 0, 0⟩)⟩
def pd_10 : PD := ⟨gAd "Machine" "signs", "signs", "Machine.signs", (C8.clsBody (top 25)).getD 1 (.Pass ⟨0, 0, 0, 0⟩)⟩
def pd_11 : PD := ⟨gAd "Machine" "data", "data", "Machine.data", (C8.clsBody (top 25)).getD 2 (.Pass ⟨0, 0, 0, 0⟩)⟩
def pd_12 : PD := ⟨fnAd "format_machine", "format_machine", "format_machine", top 33⟩
def pd_13 : PD := ⟨fnAd "format_writer", "format_writer", "format_writer", top 34⟩
def pd_14 : PD := ⟨fnAd "format_reader", "format_reader", "format_reader", top 35⟩
def pd_15 : PD := ⟨fnAd "integer_of", "integer_of", "integer_of", top 36⟩
def pd_16 : PD := ⟨fnAd "item_of", "item_of", "item_of", top 37⟩
def pd_17 : PD := ⟨fnAd "event_of", "event_of", "event_of", top 38⟩
def pd_18 : PD := ⟨fnAd "first_numbers", "first_numbers", "first_numbers", top 40⟩
def pd_19 : PD := ⟨mAd "Kind" "move_of", "move_of", "Kind.move_of", (C8.clsBody (top 39)).getD 1 (.Pass ⟨0, 0, 0, 0⟩)⟩
def pd_20 : PD := ⟨fnAd "read_rows", "read_rows", "read_rows", top 41⟩
def pd_21 : PD := ⟨fnAd "lines_of", "lines_of", "lines_of", top 42⟩
def pd_22 : PD := ⟨mAd "Kind" "__init__", "__init__", "Kind.__init__", (C8.clsBody (top 39)).getD 0 (.Pass ⟨0, 0, 0, 0⟩)⟩
def pd_23 : PD := ⟨mAd "Machine" "__init__", "__init__", "Machine.__init__", (C8.clsBody (top 25)).getD 0 (.Pass ⟨0, 0, 0, 0⟩)⟩
def pd_24 : PD := ⟨mAd "Writer" "__init__", "__init__", "Writer.__init__", (C8.clsBody (top 26)).getD 0 (.Pass ⟨0, 0, 0, 0⟩)⟩
def pd_25 : PD := ⟨fnAd "parse_writer", "parse_writer", "parse_writer", top 43⟩
def pd_26 : PD := ⟨mAd "Reader" "__init__", "__init__", "Reader.__init__", (C8.clsBody (top 27)).getD 0 (.Pass ⟨0, 0, 0, 0⟩)⟩
def pd_27 : PD := ⟨fnAd "parse_reader", "parse_reader", "parse_reader", top 44⟩
def pd_28 : PD := ⟨fnAd "_law_word", "_law_word", "_law_word", top 50⟩
def pd_29 : PD := ⟨fnAd "_law_draw", "_law_draw", "_law_draw", top 48⟩
def pd_30 : PD := ⟨fnAd "_law_told_some", "_law_told_some", "_law_told_some", top 51⟩
def pd_31 : PD := ⟨fnAd "_law_writer", "_law_writer", "_law_writer", top 52⟩
def pd_32 : PD := ⟨fnAd "_law_reader", "_law_reader", "_law_reader", top 53⟩
def pd_33 : PD := ⟨fnAd "_law_writer_of", "_law_writer_of", "_law_writer_of", top 54⟩
def pd_34 : PD := ⟨fnAd "_law_reader_of", "_law_reader_of", "_law_reader_of", top 55⟩
def pd_35 : PD := ⟨fnAd "_law_machine", "_law_machine", "_law_machine", top 56⟩
def pd_36 : PD := ⟨fnAd "_law_made", "_law_made", "_law_made", top 57⟩
def pd_37 : PD := ⟨fnAd "_law_items", "_law_items", "_law_items", top 58⟩
def pd_38 : PD := ⟨fnAd "_law_lines", "_law_lines", "_law_lines", top 59⟩
def pd_39 : PD := ⟨mAd "Writer" "__eq__", "__eq__", "Writer.__eq__", (C8.clsBody (top 26)).getD 4 (.Pass ⟨0, 0, 0, 0⟩)⟩
def pd_40 : PD := ⟨mAd "Reader" "__eq__", "__eq__", "Reader.__eq__", (C8.clsBody (top 27)).getD 4 (.Pass ⟨0, 0, 0, 0⟩)⟩
def pd_41 : PD := ⟨fnAd "law", "law", "law", top 60⟩
def pd_42 : PD := ⟨fnAd "_law_pen", "_law_pen", "_law_pen", top 46⟩
def pd_43 : PD := ⟨fnAd "_law_next", "_law_next", "_law_next", top 47⟩
def pds0 : List PD := [pd_0, pd_1, pd_2, pd_3, pd_4, pd_5, pd_6, pd_7, pd_8, pd_9, pd_10, pd_11, pd_12, pd_13, pd_14, pd_15, pd_16, pd_17, pd_18, pd_19]
def pds1 : List PD := [pd_20, pd_21, pd_22, pd_23, pd_24, pd_25, pd_26, pd_27, pd_28, pd_29, pd_30, pd_31, pd_32, pd_33, pd_34, pd_35, pd_36, pd_37, pd_38, pd_39]
def pds2 : List PD := [pd_40, pd_41, pd_42, pd_43]
def pds : List PD := pds0 ++ pds1 ++ pds2
def fF (K : Fg) : Nat → Addr := fun i => match i with
  | 4 => fnAd "InvalidWriter" K
  | 5 => fnAd "InvalidReader" K
  | 8 => fnAd "is_integer" K
  | 9 => fnAd "is_below" K
  | 10 => fnAd "is_word" K
  | 20 => fnAd "are_numbers" K
  | 21 => fnAd "are_events" K
  | 22 => fnAd "is_move" K
  | 23 => fnAd "is_row" K
  | 24 => fnAd "are_rows" K
  | 25 => fnAd "Machine" K
  | 26 => fnAd "Writer" K
  | 27 => fnAd "Reader" K
  | 32 => fnAd "joined" K
  | 33 => fnAd "format_machine" K
  | 34 => fnAd "format_writer" K
  | 35 => fnAd "format_reader" K
  | 36 => fnAd "integer_of" K
  | 37 => fnAd "item_of" K
  | 38 => fnAd "event_of" K
  | 39 => fnAd "Kind" K
  | 40 => fnAd "first_numbers" K
  | 41 => fnAd "read_rows" K
  | 42 => fnAd "lines_of" K
  | 43 => fnAd "parse_writer" K
  | 44 => fnAd "parse_reader" K
  | 46 => fnAd "_law_pen" K
  | 47 => fnAd "_law_next" K
  | 48 => fnAd "_law_draw" K
  | 50 => fnAd "_law_word" K
  | 51 => fnAd "_law_told_some" K
  | 52 => fnAd "_law_writer" K
  | 53 => fnAd "_law_reader" K
  | 54 => fnAd "_law_writer_of" K
  | 55 => fnAd "_law_reader_of" K
  | 56 => fnAd "_law_machine" K
  | 57 => fnAd "_law_made" K
  | 58 => fnAd "_law_items" K
  | 59 => fnAd "_law_lines" K
  | 60 => fnAd "law" K
  | 25000 => mAd "Machine" "__init__" K
  | 25001 => gAd "Machine" "signs" K
  | 25002 => gAd "Machine" "data" K
  | 25003 => gAd "Machine" "rows" K
  | 26000 => mAd "Writer" "__init__" K
  | 26004 => mAd "Writer" "__eq__" K
  | 27000 => mAd "Reader" "__init__" K
  | 27004 => mAd "Reader" "__eq__" K
  | 39000 => mAd "Kind" "__init__" K
  | 39001 => mAd "Kind" "move_of" K
  | _ => 0
def cdF (K : Fg) : Nat → Addr := fun i => match i with
  | 26000 => (He.cT K ("Writer", some "__init__")).1
  | 43 => (He.cT K ("parse_writer", none)).1
  | 27000 => (He.cT K ("Reader", some "__init__")).1
  | 44 => (He.cT K ("parse_reader", none)).1
  | _ => 0
def tbF (K : Fg) : Nat → Addr := fun i => match i with
  | 26000 => (He.cT K ("Writer", some "__init__")).2
  | 43 => (He.cT K ("parse_writer", none)).2
  | 27000 => (He.cT K ("Reader", some "__init__")).2
  | 44 => (He.cT K ("parse_reader", none)).2
  | _ => 0
def GT (K : Fg) : List NTab := [((He.cT K ("Writer", some "__init__")).2, nm_26000), ((He.cT K ("parse_writer", none)).2, nm_43), ((He.cT K ("Reader", some "__init__")).2, nm_27000), ((He.cT K ("parse_reader", none)).2, nm_44)]
def ex0 : List (Fg → Bool) := [fun K => cTab.all fun p => if p.1 < 100 then insB p.2 K else isxB p.2 K,
  fun K => kRows.all fun r => kitB cTab r K,
  fun K => decide ((GT K).map (·.1)).Nodup,
  fun K => (He.Fa.glo "is_integer").ok K,
  fun K => (He.Fa.free "isinstance").ok K,
  fun K => (He.Fa.free "bool").ok K,
  fun K => (He.Fa.free "int").ok K,
  fun K => (He.Fa.glo "is_below").ok K,
  fun K => (He.Fa.glo "is_word").ok K,
  fun K => (He.Fa.free "all").ok K,
  fun K => (He.Fa.free "len").ok K,
  fun K => (He.Fa.int "MAX_WORD" (12)).ok K,
  fun K => (He.Fa.free "tuple").ok K,
  fun K => (He.Fa.glo "are_numbers").ok K,
  fun K => (He.Fa.int "MAX_DATA" (6)).ok K,
  fun K => (He.Fa.int "MIN_SIGNS" (2)).ok K,
  fun K => (He.Fa.int "MAX_SIGNS" (6)).ok K,
  fun K => (He.Fa.glo "are_events").ok K,
  fun K => (He.Fa.int "MAX_EVENTS" (8)).ok K,
  fun K => (He.Fa.int "DROP" (-2)).ok K]
def ex1 : List (Fg → Bool) := [fun K => (He.Fa.glo "is_move").ok K,
  fun K => (He.Fa.glo "is_row").ok K,
  fun K => (He.Fa.free "list").ok K,
  fun K => (He.Fa.glo "are_rows").ok K,
  fun K => (He.Fa.glo "joined").ok K,
  (fun K => mdB "EVENTS" [(-1, "e"), (-2, "d")] K),
  fun K => (He.Fa.free "str").ok K,
  fun K => (He.Fa.str "EMPTY" "-").ok K,
  fun K => (He.Fa.glo "Machine").ok K,
  fun K => (He.Fa.glo "Writer").ok K,
  fun K => (He.Fa.glo "Reader").ok K,
  fun K => (He.Fa.glo "Kind").ok K,
  (fun K => ["Machine", "Writer", "Reader", "Kind"].all fun x => (He.Fa.cls x).ok K && (He.Fa.noat x "table").ok K),
  (fun K => ["Machine", "Writer", "Reader", "Kind"].all fun x => (He.Fa.cls x).ok K && (He.Fa.noat x "letters").ok K),
  (fun K => ["Machine", "Writer", "Reader", "Kind"].all fun x => (He.Fa.cls x).ok K && (He.Fa.noat x "kinds").ok K),
  fun K => (He.Fa.glo "format_machine").ok K,
  (fun K => ["Machine", "Writer", "Reader"].all fun x => (He.Fa.cls x).ok K && propB x "Machine" "data" K),
  (fun K => ["Machine", "Writer", "Reader"].all fun x => (He.Fa.cls x).ok K && propB x "Machine" "signs" K),
  (fun K => ["Machine", "Writer", "Reader"].all fun x => (He.Fa.cls x).ok K && propB x "Machine" "rows" K),
  fun K => (He.Fa.glo "format_writer").ok K]
def ex2 : List (Fg → Bool) := [fun K => (He.Fa.glo "format_reader").ok K,
  fun K => (He.Fa.glo "integer_of").ok K,
  fun K => (He.Fa.str "FIGURES" "0123456789").ok K,
  fun K => (He.Fa.glo "item_of").ok K,
  fun K => (He.Fa.glo "event_of").ok K,
  fun K => (He.Fa.glo "first_numbers").ok K,
  (fun K => ["Machine", "Writer", "Reader", "Kind"].all fun x => (He.Fa.cls x).ok K && (He.Fa.noat x "most").ok K),
  (fun K => ["Machine", "Writer", "Reader", "Kind"].all fun x => (He.Fa.cls x).ok K && (He.Fa.noat x "items_of").ok K),
  (fun K => ["Machine", "Writer", "Reader", "Kind"].all fun x => (He.Fa.cls x).ok K && (He.Fa.noat x "longest").ok K),
  fun K => (He.Fa.glo "read_rows").ok K,
  fun K => (He.Fa.free "enumerate").ok K,
  (fun K => ["Machine", "Writer", "Reader", "Kind"].all fun x => (He.Fa.cls x).ok K && (He.Fa.noat x "moves").ok K),
  (fun K => (He.Fa.cls "Kind").ok K && methB "Kind" "Kind" "move_of" K),
  fun K => (He.Fa.free "max").ok K,
  fun K => (He.Fa.glo "lines_of").ok K,
  (fun K => ["Machine", "Writer", "Reader", "Kind"].all fun x => (He.Fa.cls x).ok K && (He.Fa.noat x "word").ok K),
  codeB ("Writer", some "__init__"),
  fun K => (He.Fa.glo "InvalidWriter").ok K,
  fun K => (He.Fa.exc "InvalidWriter").ok K,
  fun K => (He.Fa.int "MAX_WRITER" (24)).ok K]
def ex3 : List (Fg → Bool) := [clfB "Machine" "__init__",
  fun K => (He.Fa.glo "parse_writer").ok K,
  codeB ("parse_writer", none),
  mkrB "Kind" "Kind",
  mkrB "Writer" "Writer",
  codeB ("Reader", some "__init__"),
  fun K => (He.Fa.glo "InvalidReader").ok K,
  fun K => (He.Fa.exc "InvalidReader").ok K,
  fun K => (He.Fa.int "MAX_READER" (40)).ok K,
  fun K => (He.Fa.glo "parse_reader").ok K,
  codeB ("parse_reader", none),
  mkrB "Reader" "Reader",
  fun K => (He.Fa.glo "_law_word").ok K,
  fun K => (He.Fa.free "range").ok K,
  fun K => (He.Fa.glo "_law_draw").ok K,
  fun K => (He.Fa.glo "_law_told_some").ok K,
  fun K => (He.Fa.glo "_law_writer").ok K,
  fun K => (He.Fa.glo "_law_reader").ok K,
  fun K => (He.Fa.glo "_law_writer_of").ok K,
  fun K => (He.Fa.glo "_law_reader_of").ok K]
def ex4 : List (Fg → Bool) := [fun K => (He.Fa.glo "_law_machine").ok K,
  fun K => (He.Fa.glo "_law_made").ok K,
  fun K => (He.Fa.glo "_law_items").ok K,
  fun K => (He.Fa.glo "_law_lines").ok K,
  fun K => (He.Fa.glo "law").ok K,
  fun K => (He.Fa.glo "_law_pen").ok K,
  fun K => (He.Fa.free "repr").ok K,
  eqB cTab "Reader" "Reader" eTys,
  eqB cTab "Writer" "Writer" eTys,
  fun K => (He.Fa.glo "_law_next").ok K]
def exL : List (Fg → Bool) := ex0 ++ ex1 ++ ex2 ++ ex3 ++ ex4
abbrev R : PySem.W.OpenRow := PySem.W.OpenLaw.row PySem.Challenge.rw_stepsagain_k08_texts_of_machines
abbrev hk : PySem.W.Hook := hookU 6 pds tfL exL
def ob (s : PySem.W.SharedT) : List FSig × Bool := obsU 6 pds tfL exL (HandSHeadRun.getT s)
theorem ob_eq (s : PySem.W.SharedT) : ob s = hk.obs s.abs := obsU_eq (HandSHeadRun.getT_eq s)
def nms0 : List Str := ["_wall", "LineError", "ParseError", "InvalidWriter", "InvalidReader", "MAX_WORD", "is_integer", "is_below", "is_word", "MIN_SIGNS", "MAX_SIGNS", "MAX_DATA", "MAX_WRITER", "MAX_READER", "MAX_EVENTS", "END", "DROP", "are_numbers", "are_events", "is_move", "is_row", "are_rows", "Machine", "Writer", "Reader", "FIGURES", "EMPTY", "EVENTS", "joined", "format_machine"]
def nms1 : List Str := ["format_writer", "format_reader", "integer_of", "item_of", "event_of", "Kind", "first_numbers", "read_rows", "lines_of", "parse_writer", "parse_reader", "_law_pen", "_law_next", "_law_draw", "_law_some", "_law_word", "_law_told_some", "_law_writer", "_law_reader", "_law_writer_of", "_law_reader_of", "_law_machine", "_law_made", "_law_items", "_law_lines"]
def nms : List Str := nms0 ++ nms1
/-- the world with the row for a special method's get set: bindSpecialIfBound? asks the world for it (a head that hashes or compares) -/
def setF (b : Bool) (w : World) : World := { w with params := { w.params with followText := fun s => if s = "special-get-raises" then b else w.params.followText s } }
theorem setF_eq {w : World} {b : Bool} (h : w.params.followText "special-get-raises" = b) : setF b w = w := by
  obtain ⟨d, p⟩ := w
  obtain ⟨p1, p2, p3, p4, p5, g, p7, p8, p9⟩ := p
  unfold setF
  have e : (fun s => if s = "special-get-raises" then b else g s) = g := by
    funext s
    by_cases q : s = "special-get-raises"
    · rw [if_pos q, q]; exact h.symm
    · rw [if_neg q]
  show ({ draws := d, params := _ } : World) = _
  dsimp only
  rw [e]
theorem trip {α β γ δ : Type} {o : Option α} {f : α → β} {g : α → γ} {h : α → δ} {a : β} {b : γ} {c : δ} (h1 : o.map f = some a) (h2 : o.map g = some b) (h3 : o.map h = some c) : o.map (fun s => (f s, g s, h s)) = some (a, b, c) := by
  cases o with
  | none => cases h1
  | some s => cases h1; cases h2; cases h3; rfl
open PySem PySem.W PySem.Calls PyProof.Rows HandSHeadRun in
theorem run1t (w : World) (os : OsState) : (HandSHeadRun.endF (HandSHeadRun.stepQ (HandSHeadRun.denQ HandSHeadRun.tabQ) R.prog (setF true w)) 20000 R.prog (setF true w) os).map (fun s => looksF R.prog (boot_heap (setF true w).params) s.abs) = some true := by
  kernel_rfl
open PySem PySem.W PySem.Calls PyProof.Rows HandSHeadRun in
theorem run1f (w : World) (os : OsState) : (HandSHeadRun.endF (HandSHeadRun.stepQ (HandSHeadRun.denQ HandSHeadRun.tabQ) R.prog (setF false w)) 20000 R.prog (setF false w) os).map (fun s => looksF R.prog (boot_heap (setF false w).params) s.abs) = some true := by
  kernel_rfl
open PySem PySem.W PySem.Calls PyProof.Rows HandSHeadRun in
theorem run1 (w : World) (os : OsState) : (HandSHeadRun.endF (HandSHeadRun.stepQ (HandSHeadRun.denQ HandSHeadRun.tabQ) R.prog w) 20000 R.prog w os).map (fun s => looksF R.prog (boot_heap w.params) s.abs) = some true := by
  cases h : w.params.followText "special-get-raises" with
  | true =>
    have q := run1t w os
    rw [setF_eq h] at q
    exact q
  | false =>
    have q := run1f w os
    rw [setF_eq h] at q
    exact q
open PySem PySem.W PySem.Calls PyProof.Rows HandSHeadRun in
theorem run2t (w : World) (os : OsState) : (HandSHeadRun.endF (HandSHeadRun.stepQ (HandSHeadRun.denQ HandSHeadRun.tabQ) R.prog (setF true w)) 20000 R.prog (setF true w) os).map (fun s => seenQ (PySem.W.view R.prog [60]) nms (importedModules R.prog.main.body) (fun s => xlAt (PySem.W.view R.prog [60]) [] s && recOk R.toRowW.records s) s.abs) = some (openGood (PySem.W.view R.prog [60]) nms) := by
  kernel_rfl
open PySem PySem.W PySem.Calls PyProof.Rows HandSHeadRun in
theorem run2f (w : World) (os : OsState) : (HandSHeadRun.endF (HandSHeadRun.stepQ (HandSHeadRun.denQ HandSHeadRun.tabQ) R.prog (setF false w)) 20000 R.prog (setF false w) os).map (fun s => seenQ (PySem.W.view R.prog [60]) nms (importedModules R.prog.main.body) (fun s => xlAt (PySem.W.view R.prog [60]) [] s && recOk R.toRowW.records s) s.abs) = some (openGood (PySem.W.view R.prog [60]) nms) := by
  kernel_rfl
open PySem PySem.W PySem.Calls PyProof.Rows HandSHeadRun in
theorem run2 (w : World) (os : OsState) : (HandSHeadRun.endF (HandSHeadRun.stepQ (HandSHeadRun.denQ HandSHeadRun.tabQ) R.prog w) 20000 R.prog w os).map (fun s => seenQ (PySem.W.view R.prog [60]) nms (importedModules R.prog.main.body) (fun s => xlAt (PySem.W.view R.prog [60]) [] s && recOk R.toRowW.records s) s.abs) = some (openGood (PySem.W.view R.prog [60]) nms) := by
  cases h : w.params.followText "special-get-raises" with
  | true =>
    have q := run2t w os
    rw [setF_eq h] at q
    exact q
  | false =>
    have q := run2f w os
    rw [setF_eq h] at q
    exact q
open PySem PySem.W PySem.Calls PyProof.Rows HandSHeadRun in
theorem run3t (w : World) (os : OsState) : (HandSHeadRun.endF (HandSHeadRun.stepQ (HandSHeadRun.denQ HandSHeadRun.tabQ) R.prog (setF true w)) 20000 R.prog (setF true w) os).map ob = some (hk.val (setF true w)) := by
  kernel_rfl
open PySem PySem.W PySem.Calls PyProof.Rows HandSHeadRun in
theorem run3f (w : World) (os : OsState) : (HandSHeadRun.endF (HandSHeadRun.stepQ (HandSHeadRun.denQ HandSHeadRun.tabQ) R.prog (setF false w)) 20000 R.prog (setF false w) os).map ob = some (hk.val (setF false w)) := by
  kernel_rfl
open PySem PySem.W PySem.Calls PyProof.Rows HandSHeadRun in
theorem run3 (w : World) (os : OsState) : (HandSHeadRun.endF (HandSHeadRun.stepQ (HandSHeadRun.denQ HandSHeadRun.tabQ) R.prog w) 20000 R.prog w os).map ob = some (hk.val w) := by
  cases h : w.params.followText "special-get-raises" with
  | true =>
    have q := run3t w os
    rw [setF_eq h] at q
    exact q
  | false =>
    have q := run3f w os
    rw [setF_eq h] at q
    exact q
theorem run (w : World) : HandSHeadRun.RunEq R (PySem.W.view R.prog [60]) hk ob 20000 nms w := fun os => trip (run1 w os) (run2 w os) (run3 w os)
end Gx
set_option Elab.async false
set_option linter.all false
set_option maxRecDepth 100000
set_option maxHeartbeats 1000000
namespace Mk
open PySem
open Sem (wp)
abbrev NK := NestedKey
def topK : NK → Bool
  | .text _ => true
  | _ => true
structure KeyIs (h : Heap) (k : NK) (v : Value) : Prop where
  it : NestedIs h k v
  dp : k.depth ≤ 8
  tp : topK k = true
theorem KeyIs.ofStr {h : Heap} {k : NK} {x : Str} {t : Tok} (z : KeyIs h k (.str x t)) : k = .text x := by
  obtain ⟨a, _, _⟩ := z
  cases a
  rfl
theorem KeyIs.uniq {h : Heap} {k l : NK} {v : Value} (a : KeyIs h k v) (b : KeyIs h l v) : k = l := a.it.inj _ _ _ b.it
def ent (w : World) (x : NK × Value × Value) : DictEntry := ⟨x.1.hash w, x.2.1, x.2.2⟩
theorem ent_at {w : World} {es : Array DictEntry} {xs : List (NK × Value × Value)} (e : es.toList = xs.map (ent w)) (j : Nat) : es[j]? = (xs[j]?).map (ent w) := by
  rw [← Array.getElem?_toList, e, List.getElem?_map]
theorem one_place {xs : List (NK × Value × Value)} (n : (xs.map (·.1)).Nodup) {i j : Nat} {k : NK} {p q : Value × Value} (a : xs[i]? = some (k, p)) (b : xs[j]? = some (k, q)) : i = j := by
  have a' : (xs.map (·.1))[i]? = some k := by rw [List.getElem?_map, a]; rfl
  have b' : (xs.map (·.1))[j]? = some k := by rw [List.getElem?_map, b]; rfl
  exact (List.getElem?_inj (List.getElem?_eq_some_iff.mp a').1 n).mp (a'.trans b'.symm)
/-- places with a hash -/
theorem mem_places {n : Nat} {f : Nat → Option Int} {h : Int} {i : Nat} (m : i ∈ placesWithHash n f h) : i < n ∧ f i = some h := by
  unfold placesWithHash at m
  rw [List.mem_filter, List.mem_range] at m
  exact ⟨m.1, by simpa using m.2⟩
theorem places_nodup (n : Nat) (f : Nat → Option Int) (h : Int) : (placesWithHash n f h).Nodup := List.nodup_range.filter _
theorem in_places {n : Nat} {f : Nat → Option Int} {h : Int} {i : Nat} (a : i < n) (b : f i = some h) : i ∈ placesWithHash n f h := by
  unfold placesWithHash
  rw [List.mem_filter, List.mem_range]
  exact ⟨a, by simp [b]⟩
section
variable {prog : Program} {w : World} {A : Around} {E : Value → Shared → Prop} {s : Shared}
theorem quietL {key : Value} {k : NK} {vs : List Value} {Q : Bool → Shared → Prop} (hk : KeyIs s.heap k key) (hv : ∀ v ∈ vs, ∃ l, KeyIs s.heap l v) (h : Q false s) : wpAny (model prog w) A (tableMayTell key vs) Q E s := by
  unfold tableMayTell
  split
  · exact wpAny_pure h
  · refine wpAny_bind (quiet_key k key 8 s hk.it hk.dp A E _ ?_)
    rw [if_neg (by decide)]
    refine wpAny_bind (wpAny_forIn_list _ (fun L r t => t = s ∧ r = (none, ()) ∧ ∀ v ∈ L, ∃ l, KeyIs s.heap l v) _ ?_ ?_ _ _ ⟨rfl, rfl, hv⟩)
    · rintro v L r t ⟨rfl, rfl, hL⟩
      obtain ⟨l, hl⟩ := hL v (List.mem_cons_self ..)
      refine wpAny_bind (quiet_key l v 8 t hl.it hl.dp A E _ ?_)
      rw [if_neg (by decide)]
      exact wpAny_pure ⟨rfl, rfl, fun u hu => hL u (List.mem_cons_of_mem _ hu)⟩
    · rintro r t ⟨rfl, rfl, _⟩
      exact wpAny_pure h
/-- what is known of a table and a key -/
structure Tab (w : World) (h : Heap) (d : Addr) (o : Obj) (es : Array DictEntry) (ep : Nat) (xs : List (NK × Value × Value)) : Prop where
  ob : h.get? d = some o
  da : o.data = .dict es ep
  en : es.toList = xs.map (ent w)
  ks : ∀ x ∈ xs, KeyIs h x.1 x.2.1
  nd : (xs.map (·.1)).Nodup
theorem Tab.len {h : Heap} {d : Addr} {o : Obj} {es : Array DictEntry} {ep : Nat} {xs : List (NK × Value × Value)} (t : Tab w h d o es ep xs) : es.size = xs.length := by
  rw [← Array.length_toList, t.en, List.length_map]
theorem Tab.place {h : Heap} {d : Addr} {o : Obj} {es : Array DictEntry} {ep : Nat} {xs : List (NK × Value × Value)} (t : Tab w h d o es ep xs) {j : Nat} {k : NK} {p : Value × Value} (e : xs[j]? = some (k, p)) :
    j ∈ placesWithHash es.size (fun i => (es[i]?).map (·.hash)) (k.hash w) := by
  refine in_places (by rw [t.len]; exact (List.getElem?_eq_some_iff.mp e).1) ?_
  show (es[j]?).map (·.hash) = _
  rw [ent_at t.en, e]
  rfl
theorem Tab.there {h : Heap} {d : Addr} {o : Obj} {es : Array DictEntry} {ep : Nat} {xs : List (NK × Value × Value)} (t : Tab w h d o es ep xs) {i : Nat} {hh : Int} (m : i ∈ placesWithHash es.size (fun i => (es[i]?).map (·.hash)) hh) :
    ∃ x, xs[i]? = some x ∧ es[i]? = some (ent w x) ∧ x.1.hash w = hh ∧ KeyIs h x.1 x.2.1 := by
  obtain ⟨a, b⟩ := mem_places m
  rw [t.len] at a
  have e := ent_at t.en i
  rw [List.getElem?_eq_getElem a] at e
  refine ⟨xs[i], List.getElem?_eq_getElem a, e, ?_, t.ks _ (List.getElem_mem a)⟩
  have b' : (es[i]?).map (·.hash) = some hh := b
  rw [e] at b'
  simpa [ent] using b'
/-- the turns of the search -/
structure Seek (xs : List (NK × Value × Value)) (k : NK) (L : List Nat) (hit : Option Nat) : Prop where
  nd : L.Nodup
  all : ∀ j p, xs[j]? = some (k, p) → (j ∈ L ∧ hit = none) ∨ hit = some j
  hit : ∀ j, hit = some j → j ∉ L ∧ ∃ p, xs[j]? = some (k, p)
theorem Seek.skip {xs : List (NK × Value × Value)} {k : NK} {i : Nat} {L : List Nat} {hit : Option Nat} (z : Seek xs k (i :: L) hit) {x : NK × Value × Value} (e : xs[i]? = some x) (ne : x.1 ≠ k) : Seek xs k L hit := by
  refine ⟨(List.nodup_cons.mp z.nd).2, fun j p hj => ?_, fun j hj => ⟨fun m => (z.hit j hj).1 (List.mem_cons_of_mem _ m), (z.hit j hj).2⟩⟩
  rcases z.all j p hj with ⟨m, h0⟩ | h0
  · rcases List.mem_cons.mp m with rfl | m
    · rw [e] at hj
      cases hj
      exact absurd rfl ne
    · exact .inl ⟨m, h0⟩
  · exact .inr h0
theorem Seek.take {xs : List (NK × Value × Value)} {k : NK} {i : Nat} {L : List Nat} {hit : Option Nat} (n : (xs.map (·.1)).Nodup) (z : Seek xs k (i :: L) hit) {p : Value × Value} (e : xs[i]? = some (k, p)) : hit = none ∧ Seek xs k L (some i) := by
  have h0 : hit = none := by
    rcases z.all i p e with ⟨_, h0⟩ | h0
    · exact h0
    · exact absurd (List.mem_cons_self ..) (z.hit i h0).1
  refine ⟨h0, (List.nodup_cons.mp z.nd).2, fun j q hj => .inr (by rw [one_place n hj e]), fun j hj => ?_⟩
  cases hj
  exact ⟨(List.nodup_cons.mp z.nd).1, p, e⟩
theorem Seek.fin {xs : List (NK × Value × Value)} {k : NK} {hit : Option Nat} (z : Seek xs k [] hit) {Q : Option Nat → Shared → Prop} {t : Shared} (h0 : (∀ (j : Nat) (p : Value × Value), xs[j]? ≠ some (k, p)) → Q none t) (h1 : ∀ (j : Nat) (p : Value × Value), xs[j]? = some (k, p) → Q (some j) t) : Q hit t := by
  cases hit with
  | none =>
    refine h0 fun j p e => ?_
    rcases z.all j p e with ⟨m, _⟩ | m
    · cases m
    · cases m
  | some j =>
    obtain ⟨_, p, e⟩ := z.hit j rfl
    exact h1 j p e
theorem find {d : Addr} {key : Value} {o : Obj} {es : Array DictEntry} {ep : Nat} {xs : List (NK × Value × Value)} {k : NK} {Q : Option Nat → Shared → Prop} (hu : A.units + 8 < cLine) (hk : KeyIs s.heap k key) (T : Tab w s.heap d o es ep xs)
    (h0 : (∀ (j : Nat) (p : Value × Value), xs[j]? ≠ some (k, p)) → Q none s) (h1 : ∀ (j : Nat) (p : Value × Value), xs[j]? = some (k, p) → Q (some j) s) : wpAny (model prog w) A (dictFind d key (k.hash w)) Q E s := by
  have start : Seek xs k (placesWithHash es.size (fun i => (es[i]?).map (·.hash)) (k.hash w)) none := ⟨places_nodup _ _ _, fun j p e => .inl ⟨T.place e, rfl⟩, fun j e => by cases e⟩
  have keysOf : ∀ v ∈ (placesWithHash es.size (fun i => (es[i]?).map (·.hash)) (k.hash w)).filterMap (fun i => (es[i]?).map (·.key)), ∃ l, KeyIs s.heap l v := fun v hv => by
    obtain ⟨i, m, e⟩ := List.mem_filterMap.mp hv
    obtain ⟨x, _, e2, _, hx⟩ := T.there m
    rw [e2] at e
    cases e
    exact ⟨_, hx⟩
  have bad : ¬ (es.any fun e => e.key == key && e.hash != k.hash w) = true := by
    rw [← Array.any_toList, T.en, List.any_map, List.any_eq_true]
    rintro ⟨x, m, e⟩
    simp only [Function.comp, ent, Bool.and_eq_true, beq_iff_eq, bne_iff_ne, ne_eq] at e
    have hx := T.ks x m
    rw [e.1] at hx
    exact e.2 (by rw [hx.uniq hk])
  have room : ∀ l : NK, A.units + min l.depth k.depth < cLine := fun l => by have := hk.dp; omega
  unfold dictFind
  try with_reducible refine wpAny_holding ?_
  refine wpAny_bind (wpAny_dictEntries T.ob T.da ?_)
  generalize hp : placesWithHash es.size (fun i => (es[i]?).map (·.hash)) (k.hash w) = P at *
  have ther : ∀ i ∈ P, ∃ x, xs[i]? = some x ∧ es[i]? = some (ent w x) ∧ x.1.hash w = k.hash w ∧ KeyIs s.heap x.1 x.2.1 := fun i m => by rw [← hp] at m; exact T.there m
  have plain : wpAny (model prog w) A (dictWalkPlain d key (k.hash w) es P) Q E s := by
    unfold dictWalkPlain
    refine wpAny_bind (wpAny_forIn_list _ (fun L r t => t = s ∧ r = (none, ()) ∧ Seek xs k L none ∧ ∀ i ∈ L, i ∈ P) _ ?_ ?_ _ _ ⟨rfl, rfl, start, fun _ m => m⟩)
    · rintro i L r t ⟨rfl, rfl, z, sub⟩
      obtain ⟨x, e1, e2, e3, hx⟩ := ther i (sub i (List.mem_cons_self ..))
      rw [e2]
      dsimp only [ent]
      rw [if_pos (by rw [e3]; simp)]
      refine wpAny_bind (wpAny_dictEpoch T.ob T.da (wpAny_bind (eqAt_key x.1 k A t _ _ hx.it hk.it (room _) prog w E _ (wpAny_bind (wpAny_dictEpoch T.ob T.da ?_)))))
      rw [if_neg (by simp)]
      by_cases e : x.1 = k
      · have eb : NestedKey.beq x.1 k = true := by rw [e]; exact NestedKey.beq_self k
        rw [eb]
        obtain ⟨x1, p⟩ := x
        dsimp only at e
        subst e
        rw [if_pos rfl]
        exact wpAny_bind (wpAny_rule (wpAny_pure (wpAny_pure (h1 i p e1))))
      · have eb : NestedKey.beq x.1 k = false := by rw [← NestedKey.decide_eq]; exact decide_eq_false e
        rw [eb, if_neg (by decide)]
        exact wpAny_bind (wpAny_rule (wpAny_pure ⟨rfl, rfl, z.skip e1 e, fun i m => sub i (List.mem_cons_of_mem _ m)⟩))
    · rintro r t ⟨rfl, rfl, z, _⟩
      exact wpAny_pure (z.fin h0 h1)
  have byV : ∀ x t, key = .str x t → (es.all fun e => isExactStrKey e.key) = true → wpAny (model prog w) A (foundByValue d key es x) Q E s := fun x t ek hall => by
    have kt : k = .text x := by rw [ek] at hk; exact hk.ofStr
    unfold foundByValue
    cases hf : es.findIdx? (·.key.isStr x) with
    | none =>
      refine wpAny_pure (h0 fun j p e => ?_)
      rw [Array.findIdx?_eq_none_iff] at hf
      have e1 := ent_at T.en j
      rw [e] at e1
      have z := hf _ (Array.mem_of_getElem? e1)
      have hx := T.ks _ (List.mem_of_getElem? e)
      dsimp only at hx
      rw [kt] at hx
      dsimp only [ent] at z
      generalize p.1 = u at *
      have hi := hx.it
      cases hi
      simp [Value.isStr] at z
    | some i =>
      rw [Array.findIdx?_eq_some_iff_getElem] at hf
      obtain ⟨hi, hp, _⟩ := hf
      have hi2 : i < xs.length := by rw [← T.len]; exact hi
      have e1 := ent_at T.en i
      rw [List.getElem?_eq_getElem hi2] at e1
      have e2 : es[i] = ent w xs[i] := by
        rw [Array.getElem?_eq_getElem hi] at e1
        exact Option.some.inj e1
      rw [e2] at hp
      have hx := T.ks _ (List.getElem_mem hi2)
      have e3 := List.getElem?_eq_getElem hi2
      generalize xs[i] = x' at *
      obtain ⟨k', u, v⟩ := x'
      dsimp only [ent] at hp hx
      have hk2 : k' = k := by
        cases u with
        | str y t2 =>
          rw [hx.ofStr, kt]
          simp [Value.isStr] at hp
          rw [hp]
        | _ => simp [Value.isStr] at hp
      subst hk2
      show wpAny _ _ (match es[i]? with | some e => _ | _ => _) _ _ _
      rw [e1]
      dsimp only [ent]
      refine wpAny_bind (wpAny_dictEpoch T.ob T.da (wpAny_bind (eqAt_key k' k' A s _ _ hx.it hk.it (room _) prog w E _ (wpAny_bind (wpAny_dictEpoch T.ob T.da ?_)))))
      rw [if_neg (by simp)]
      have eb : NestedKey.beq k' k' = true := NestedKey.beq_self k'
      rw [eb, if_pos rfl]
      exact wpAny_bind (wpAny_rule (wpAny_pure (h1 i _ e3)))
  by_cases hall : (es.all fun e => isExactStrKey e.key) = true ∧ ∃ x t, key = .str x t
  · obtain ⟨ha, x, t, rfl⟩ := hall
    dsimp only
    rw [if_pos ha]
    exact byV x t rfl ha
  have hall : ∀ x t, key = .str x t → ¬ (es.all fun e => isExactStrKey e.key) = true := fun x t e z => hall ⟨z, x, t, e⟩
  by_cases hc : (key :: P.filterMap (fun i => (es[i]?).map (·.key))).all carriedByValue = true
  · cases key with
    | str x t =>
      dsimp only
      rw [if_neg (hall x t rfl), if_pos hc]
      exact plain
    | ref a => simp [carriedByValue] at hc
    | _ =>
      dsimp only
      rw [if_pos hc]
      exact plain
  · by_cases hs : (P.filterMap (fun i => (es[i]?).map (·.key)) == [key]) = true
    all_goals
      cases key with
      | _ =>
        dsimp only
        try rw [if_neg (hall _ _ rfl)]
        rw [if_neg hc]
        try rw [if_neg bad]
        first | rw [if_pos hs] | rw [if_neg hs]
        first | refine wpAny_bind (wpAny_pure ?_) | refine wpAny_bind (quietL hk keysOf ?_)
        rw [if_neg (by simp)]
        refine wpAny_bind (wpAny_forIn_list _ (fun L r t => t = s ∧ ∃ hit, r = (none, hit) ∧ Seek xs k L hit ∧ ∀ i ∈ L, i ∈ P) _ ?_ ?_ _ _ ⟨rfl, none, rfl, start, fun _ m => m⟩)
        · rintro i L r t ⟨rfl, hit, rfl, z, sub⟩
          obtain ⟨x, e1, e2, e3, hx⟩ := ther i (sub i (List.mem_cons_self ..))
          have sub' : ∀ i ∈ L, i ∈ P := fun i m => sub i (List.mem_cons_of_mem _ m)
          rw [e2]
          dsimp only [ent]
          rw [if_pos (by rw [e3]; simp)]
          refine wpAny_bind (wpAny_dictEpoch T.ob T.da (wpAny_bind (eqAt_key x.1 k A t _ _ hx.it hk.it (room _) prog w E _ (wpAny_bind (wpAny_dictEpoch T.ob T.da ?_)))))
          rw [if_neg (by simp)]
          by_cases e : x.1 = k
          · have eb : NestedKey.beq x.1 k = true := by rw [e]; exact NestedKey.beq_self k
            rw [eb]
            obtain ⟨x1, p⟩ := x
            dsimp only at e
            subst e
            obtain ⟨h2, z2⟩ := z.take T.nd e1
            subst h2
            rw [if_pos rfl, if_neg (by simp)]
            refine wpAny_bind (wpAny_rule ?_)
            split
            · exact wpAny_pure (wpAny_pure (h1 i p e1))
            · exact wpAny_pure ⟨rfl, some i, rfl, z2, sub'⟩
          · have eb : NestedKey.beq x.1 k = false := by rw [← NestedKey.decide_eq]; exact decide_eq_false e
            rw [eb, if_neg (by decide)]
            refine wpAny_bind (wpAny_rule ?_)
            rw [if_neg (by simp)]
            exact wpAny_pure ⟨rfl, hit, rfl, z.skip e1 e, sub'⟩
        · rintro r t ⟨rfl, hit, rfl, z, _⟩
          exact wpAny_pure (z.fin h0 h1)
theorem get {d : Addr} {key : Value} {o : Obj} {es : Array DictEntry} {ep : Nat} {xs : List (NK × Value × Value)} {k : NK} {Q : Option Value → Shared → Prop} (hu : A.units + 8 < cLine) (hk : KeyIs s.heap k key) (T : Tab w s.heap d o es ep xs)
    (h0 : (∀ (j : Nat) (p : Value × Value), xs[j]? ≠ some (k, p)) → Q none { s with toks := s.toks + k.draws }) (h1 : ∀ (j : Nat) (p : Value × Value), xs[j]? = some (k, p) → Q (some p.2) { s with toks := s.toks + k.draws }) : wpAny (model prog w) A (dictGet d key) Q E s := by
  unfold dictGet
  try with_reducible refine wpAny_holding ?_
  have T' : Tab w ({ s with toks := s.toks + k.draws } : Shared).heap d o es ep xs := T
  have hk' : KeyIs ({ s with toks := s.toks + k.draws } : Shared).heap k key := hk
  refine wpAny_bind (pyHash_key k key A s _ hk.it (by have := hk.dp; omega) (wpAny_bind (find hu hk' T' (fun n => ?_) fun j p e => ?_)))
  · exact wpAny_pure (h0 n)
  · refine wpAny_bind (wpAny_dictEntries T'.ob T'.da ?_)
    rw [ent_at T.en, e]
    exact wpAny_pure (h1 j p e)
/-- a key put into a table -/
def putE (xs : List (NK × Value × Value)) (k : NK) (key v : Value) : List (NK × Value × Value) := if (xs.any fun x => decide (x.1 = k)) = true then xs.map (fun x => if x.1 = k then (x.1, x.2.1, v) else x) else xs ++ [(k, key, v)]
theorem putE_new {xs : List (NK × Value × Value)} {k : NK} {key v : Value} (h : ∀ (j : Nat) (p : Value × Value), xs[j]? ≠ some (k, p)) : putE xs k key v = xs ++ [(k, key, v)] ∧ k ∉ xs.map (·.1) := by
  have ne : ∀ x ∈ xs, x.1 ≠ k := fun x m e => by
    obtain ⟨j, hj⟩ := List.mem_iff_getElem?.mp m
    exact h j x.2 (by rw [hj, ← e])
  refine ⟨if_neg fun z => ?_, fun m => ?_⟩
  · obtain ⟨x, m, e⟩ := List.any_eq_true.mp z
    exact ne x m (of_decide_eq_true e)
  · obtain ⟨x, m, e⟩ := List.mem_map.mp m
    exact ne x m e
theorem putE_old {xs : List (NK × Value × Value)} {k : NK} {key v : Value} {j : Nat} {p : Value × Value} (h : xs[j]? = some (k, p)) : putE xs k key v = xs.map (fun x => if x.1 = k then (x.1, x.2.1, v) else x) :=
  if_pos (List.any_eq_true.mpr ⟨(k, p), List.mem_of_getElem? h, by simp⟩)
theorem modify_old {k : NK} {v : Value} : ∀ {xs : List (NK × Value × Value)} {j : Nat} {p : Value × Value}, (xs.map (·.1)).Nodup → xs[j]? = some (k, p) → (xs.map (ent w)).modify j (fun e => { e with val := v }) = (xs.map (fun x => if x.1 = k then (x.1, x.2.1, v) else x)).map (ent w)
  | [], j, _, _, h => by simp at h
  | x :: xs, 0, p, n, h => by
    simp at h
    subst h
    rw [List.map_cons, List.nodup_cons] at n
    rw [List.map_cons, List.map_cons, List.map_cons, if_pos rfl]
    show _ :: xs.map (ent w) = _
    congr 1
    rw [List.map_map]
    refine List.map_congr_left fun y m => ?_
    have : y.1 ≠ k := fun e => n.1 (List.mem_map.mpr ⟨y, m, e⟩)
    simp [this]
  | x :: xs, j + 1, p, n, h => by
    rw [List.map_cons, List.nodup_cons] at n
    have h' : xs[j]? = some (k, p) := by simpa using h
    have ne : x.1 ≠ k := fun e => n.1 (e ▸ List.mem_map.mpr ⟨(k, p), List.mem_of_getElem? h', rfl⟩)
    rw [List.map_cons, List.map_cons, List.map_cons, if_neg ne]
    show ent w x :: (xs.map (ent w)).modify j _ = _
    rw [modify_old n.2 h']
theorem KeyIs.keep {h h' : Heap} {k : NK} {v : Value} {d : Addr} {o : Obj} {es : Array DictEntry} {ep : Nat} (z : KeyIs h k v) (ho : h.get? d = some o) (hd : o.data = .dict es ep) (sb : Heap.SameBut d h h') : KeyIs h' k v :=
  ⟨NestedIs.at (fun a u vs n ha hs => sb.extBut a u (fun e => by subst e; rw [ho] at ha; cases ha; rw [hd] at hs; cases hs) ha) k v z.it, z.dp, z.tp⟩
/-- what the table is behind a store -/
structure Put (w : World) (d : Addr) (o : Obj) (xs : List (NK × Value × Value)) (h h' : Heap) : Prop where
  sb : Heap.SameBut d h h'
  tb : ∃ o' es' ep', Tab w h' d o' es' ep' xs ∧ (o.ExactDict → o'.ExactDict)
theorem set {d : Addr} {key v : Value} {o : Obj} {es : Array DictEntry} {ep : Nat} {xs : List (NK × Value × Value)} {k : NK} {Q : Unit → Shared → Prop} (hu : A.units + 8 < cLine) (hk : KeyIs s.heap k key) (T : Tab w s.heap d o es ep xs) (hx : o.ExactDict) (hz : xs.length ≤ sizeLine)
    (h : ∀ h', Put w d o (putE xs k key v) s.heap h' → Q () { s with heap := h', toks := s.toks + k.draws }) : wpAny (model prog w) A (dictSet d key v) Q E s := by
  unfold dictSet
  try with_reducible refine wpAny_holding ?_
  have T' : Tab w ({ s with toks := s.toks + k.draws } : Shared).heap d o es ep xs := T
  have hk' : KeyIs ({ s with toks := s.toks + k.draws } : Shared).heap k key := hk
  refine wpAny_bind (pyHash_key k key A s _ hk.it (by have := hk.dp; omega) ?_)
  unfold dictSetHashed
  try with_reducible refine wpAny_holding ?_
  refine wpAny_bind (find hu hk' T' (fun n => ?_) fun j p e => ?_)
  · obtain ⟨pe, nm⟩ := putE_new (key := key) (v := v) n
    have sb : Heap.SameBut d s.heap (s.heap.update d (Obj.mapDictKeys (·.push ⟨k.hash w, key, v⟩))) := Heap.SameBut.update ..
    refine wpAny_bind (wpAny_rule (wpAny_updateDictKeys (hz := by have e := T.len; omega) (s := { s with toks := s.toks + k.draws }) T'.ob T'.da (h _ ⟨sb, _, _, ep + 1, ⟨Heap.get?_update_self _ T.ob (Obj.isFreed_of_dict (Obj.data_mapDictKeys T.da _)), Obj.data_mapDictKeys T.da _, ?_, ?_, ?_⟩, fun z => z.mapDictKeys _⟩)))
    · rw [pe, List.map_append, ← T.en]
      simp [ent]
    · intro x m
      rw [pe] at m
      rcases List.mem_append.mp m with m | m
      · exact (T.ks x m).keep T.ob T.da sb
      · rw [List.mem_singleton.mp m]
        exact hk.keep T.ob T.da sb
    · rw [pe, List.map_append, List.nodup_append]
      refine ⟨T.nd, by simp, fun a ma b mb => ?_⟩
      simp at mb
      subst mb
      exact fun e => nm (e ▸ ma)
  · have pe := putE_old (key := key) (v := v) e
    have sb : Heap.SameBut d s.heap (s.heap.update d (Obj.mapDict (·.modify j fun e => { e with val := v }))) := Heap.SameBut.update ..
    refine wpAny_bind (wpAny_rule (wpAny_bind (wpAny_updateDict (s := { s with toks := s.toks + k.draws }) T'.ob T'.da (wpAny_point (h _ ⟨sb, _, _, ep, ⟨Heap.get?_update_self _ T.ob (Obj.isFreed_of_dict (Obj.data_mapDict T.da _)), Obj.data_mapDict T.da _, ?_, ?_, ?_⟩, fun z => z.mapDict _⟩)))))
    · rw [pe, ← modify_old T.nd e, ← T.en]
      obtain ⟨l⟩ := es
      simp
    · intro x m
      rw [pe] at m
      obtain ⟨y, my, rfl⟩ := List.mem_map.mp m
      have := (T.ks y my).keep T.ob T.da sb
      split <;> exact this
    · rw [pe]
      have : (xs.map (fun x => if x.1 = k then (x.1, x.2.1, v) else x)).map (·.1) = xs.map (·.1) := by
        rw [List.map_map]
        refine List.map_congr_left fun y _ => ?_
        show (if y.1 = k then (y.1, y.2.1, v) else y).1 = y.1
        split <;> rfl
      rw [this]
      exact T.nd
end
end Mk
set_option Elab.async false
set_option linter.all false
set_option maxRecDepth 100000
set_option maxHeartbeats 1000000
namespace Mk
open PySem
open Sem (wp)
section
variable {prog : Program} {w : World} {A : Around} {E : Value → Shared → Prop} {s : Shared} {d : Addr} {key v : Value} {o : Obj} {es : Array DictEntry} {ep : Nat} {xs : List (NK × Value × Value)} {k : NK}
theorem Tab.ty (T : Tab w s.heap d o es ep xs) (hx : o.ExactDict) : s.TypeIs (.ref d) "dict" := ⟨o, T.ob, hx.1⟩
end
end Mk
set_option Elab.async false
set_option linter.all false
set_option maxRecDepth 100000
set_option maxHeartbeats 4000000
namespace Stp
open PySem L2
/-- all that was tracked, but for p, is as it was -/
def But (p : Addr) (H H' : Hp) : Prop := ∀ b o, b ≠ p → H b = some o → H' b = some o
theorem But.refl (p : Addr) (H : Hp) : But p H H := fun _ _ _ h => h
theorem But.trans {p : Addr} {H H1 H2 : Hp} (a : But p H H1) (b : But p H1 H2) : But p H H2 := fun c o n h => b c o n (a c o n h)
theorem Same.but {p : Addr} {H H' : Hp} (a : Same H H') : But p H H' := fun c o _ h => a c o h
theorem But.upd {p : Addr} {H H' : Hp} {o : HO} (a : But p H H') : But p H (upd H' p o) := fun c u n h => by
  rw [upd_ne n]
  exact a c u n h
/-- a pen: its cells at c, the number of the next call, the number that remains -/
structure PenIs (H : Hp) (p c : Addr) (cs : List Int) (i : Nat) (r : Int) : Prop where
  pen : H p = some (.lst [.ref c, .int i, .int r])
  cells : H c = some (.lst (cs.map V.int))
  pos : 0 ≤ r
theorem PenIs.ne {H : Hp} {p c : Addr} {cs : List Int} {i : Nat} {r : Int} (P : PenIs H p c cs i r) : c ≠ p := by
  refine ne_of P.cells P.pen fun z => ?_
  injection z with z
  cases cs with
  | nil => cases z
  | cons a l =>
    rw [List.map_cons] at z
    injection z with z1 _
    cases z1
def PenAt (H : Hp) (p c : Addr) (n : Nat) : Prop := ∃ cs i r, PenIs H p c cs i r ∧ i ≤ n
theorem PenAt.same {H H' : Hp} {p c : Addr} {n : Nat} (P : PenAt H p c n) (s : Same H H') : PenAt H' p c n := by
  obtain ⟨cs, i, r, ⟨h1, h2, h3⟩, h4⟩ := P
  exact ⟨cs, i, r, ⟨s _ _ h1, s _ _ h2, h3⟩, h4⟩
theorem PenAt.up {H : Hp} {p c : Addr} {n m : Nat} (P : PenAt H p c n) (s : n ≤ m) : PenAt H p c m := by
  obtain ⟨cs, i, r, h1, h4⟩ := P
  exact ⟨cs, i, r, h1, Nat.le_trans h4 s⟩
theorem PenAt.atP {H : Hp} {p c : Addr} {n : Nat} (P : PenAt H p c n) : ∃ o, H p = some o := by
  obtain ⟨cs, i, r, h, _⟩ := P
  exact ⟨_, h.pen⟩
theorem PenAt.atC {H : Hp} {p c : Addr} {n : Nat} (P : PenAt H p c n) : ∃ o, H c = some o := by
  obtain ⟨cs, i, r, h, _⟩ := P
  exact ⟨_, h.cells⟩
theorem PenAt.neP {H : Hp} {p c a : Addr} {n : Nat} (P : PenAt H p c n) (ha : H a = none) : a ≠ p := by
  obtain ⟨o, h⟩ := P.atP
  exact (ne_of_none h ha).symm
theorem PenAt.neC {H : Hp} {p c a : Addr} {n : Nat} (P : PenAt H p c n) (ha : H a = none) : a ≠ c := by
  obtain ⟨o, h⟩ := P.atC
  exact (ne_of_none h ha).symm
/-- the pen stands while another thing changes -/
theorem PenAt.other {H : Hp} {p c a : Addr} {n : Nat} {o : HO} (P : PenAt H p c n) (h1 : a ≠ p) (h2 : a ≠ c) : PenAt (upd H a o) p c n := by
  obtain ⟨cs, i, r, ⟨k1, k2, k3⟩, h4⟩ := P
  exact ⟨cs, i, r, ⟨by rw [upd_ne h1.symm]; exact k1, by rw [upd_ne h2.symm]; exact k2, k3⟩, h4⟩
def spPen (K : PySem.W.Frag) : Sp := fun vs H Q _ => ∃ (a : Addr) (ns : List Int), vs = [.ref a] ∧ SqL K H a (ns.map V.int) ∧
  ∀ (H' : Hp) (p c : Addr), Same H H' → H p = none → H c = none → PenAt H' p c 0 → Q (.ref p) H'
def spNext : Sp := fun vs H Q _ => ∃ (p c : Addr) (cs : List Int) (i : Nat) (r : Int), vs = [.ref p] ∧ PenIs H p c cs i r ∧ i < 1000000000000 ∧
  ∀ (H' : Hp) (v : Int), But p H H' → PenIs H' p c cs (i + 1) r → 0 ≤ v → Q (.int v) H'
def spDraw : Sp := fun vs H Q _ => ∃ (p c : Addr) (u : Int) (n : Nat), vs = [.ref p, .int u] ∧ PenAt H p c n ∧ n < 1000000000000 ∧ 0 < u ∧ u < 1073741824 ∧
  ∀ (H' : Hp) (d : Int), But p H H' → PenAt H' p c (n + 1) → 0 ≤ d → d < u → Q (.int d) H'
structure PenTxt (mg : Str → Option Value) : Prop where
  list : mg "list" = none
  int : mg "int" = none
  len : mg "len" = none
theorem dp_ints {K : PySem.W.Frag} {H : Hp} : ∀ (cs : List Int), DpAll K H (cs.map V.int) (cs.map PyData.int)
  | [] => .nil
  | a :: l => .cons (.int a) (dp_ints l)
/-- flat data: d of depth at most n that may be laid -/
def Shp (n : Nat) (d : PyData) : Prop := d.canLay0 = true ∧ d.depth ≤ n
theorem Shp.up {n m : Nat} {d : PyData} (h : Shp n d) (l : n ≤ m) : Shp m d := ⟨h.1, Nat.le_trans h.2 l⟩
theorem shp_all {n : Nat} : ∀ {ds : List PyData}, (∀ d ∈ ds, Shp n d) → PyData.canLayAll0 ds = true ∧ PyData.depthAll ds ≤ n
  | [], _ => ⟨by simp only [PyData.canLayAll0], by simp only [PyData.depthAll]; exact Nat.zero_le _⟩
  | d :: ds, h => by
    have h1 := h d (List.mem_cons_self ..)
    have h2 := shp_all (ds := ds) fun e m => h e (List.mem_cons_of_mem _ m)
    refine ⟨?_, ?_⟩
    · simp only [PyData.canLayAll0, h1.1, h2.1, Bool.and_self]
    · simp only [PyData.depthAll]
      exact Nat.max_le.mpr ⟨h1.2, h2.2⟩
theorem Shp.list {n : Nat} {ds : List PyData} (h : ∀ d ∈ ds, Shp n d) : Shp (n + 1) (.list ds) := by
  have q := shp_all h
  refine ⟨?_, ?_⟩
  · simp only [PyData.canLay0, q.1]
  · simp only [PyData.depth]
    exact Nat.succ_le_succ q.2
theorem Shp.tuple {n : Nat} {ds : List PyData} (h : ∀ d ∈ ds, Shp n d) : Shp (n + 1) (.tuple ds) := by
  have q := shp_all h
  refine ⟨?_, ?_⟩
  · simp only [PyData.canLay0, q.1]
  · simp only [PyData.depth]
    exact Nat.succ_le_succ q.2
theorem Shp.int (i : Int) : Shp 0 (.int i) := ⟨by simp only [PyData.canLay0], by simp only [PyData.depth]; exact Nat.le_refl _⟩
theorem Shp.bool (i : Bool) : Shp 0 (.bool i) := ⟨by simp only [PyData.canLay0], by simp only [PyData.depth]; exact Nat.le_refl _⟩
theorem Shp.none : Shp 0 .none := ⟨by simp only [PyData.canLay0], by simp only [PyData.depth]; exact Nat.le_refl _⟩
theorem Shp.ok {n : Nat} {d : PyData} (h : Shp n d) (l : n ≤ 64) : SeqAt.shaped d = true := by
  unfold SeqAt.shaped
  rw [h.1, decide_eq_true (Nat.le_trans h.2 l)] <;> rfl
theorem shp_ints (cs : List Int) : Shp 1 (.list (cs.map PyData.int)) := Shp.list fun d m => by
  obtain ⟨i, _, rfl⟩ := List.mem_map.mp m
  exact Shp.int i
theorem eqv_ints_nil (cs : List Int) : PyData.eqv (.list (cs.map PyData.int)) (.list []) = cs.isEmpty := by
  cases cs <;> rfl
theorem same_new {H : Hp} {p : Addr} {o : HO} (h : H p = none) : Same H (upd H p o) := fun b u e => by
  rw [upd_ne (ne_of_none e h)]
  exact e
end Stp
set_option Elab.async false
set_option linter.all false
set_option maxRecDepth 100000
set_option maxHeartbeats 4000000
namespace Pu
open PySem L2 Stp NdefX
open PyProof.Rows hiding St
inductive D where
  | non | bl (b : Bool) | int (i : Int) | str (x : Str)
  | tup (xs : List D) | lst (xs : List D)
  | dK (kvs : List (Key × D)) | dT (kvs : List (List Key × D)) | dN (kvs : List (D × D))
  | obj (c : Nat) (fs : List (Str × D))
  | exc (c : Nat) (fs : List (Str × D))
  | fn (id : Nat) (cap : List D)
  | ty (n : String) | cls (c : Nat) | pen | scr | wt (xs : List D) | bw (xs : List D) | rf (k : Nat)
inductive T (α : Type) where
  | ret (a : α) | ex (e : D) | draw (u : Nat) (k : Nat → T α) | fail
namespace T
variable {α β γ : Type}
def bind : T α → (α → T β) → T β
  | .ret a, f => f a
  | .ex e, _ => .ex e
  | .draw u k, f => .draw u fun d => (k d).bind f
  | .fail, _ => .fail
/-- what follows either way -/
def bindX : T α → (α → T β) → (D → T β) → T β
  | .ret a, f, _ => f a
  | .ex e, _, g => g e
  | .draw u k, f, g => .draw u fun d => (k d).bindX f g
  | .fail, _, _ => .fail
def cap : Nat := 1000000000000
def wp : T α → Nat → (α → Nat → Prop) → (D → Nat → Prop) → Prop
  | .ret a, n, Q, _ => Q a n
  | .ex e, n, _, E => E e n
  | .draw u k, n, Q, E => 0 < u ∧ u < 1073741824 ∧ n < cap ∧ ∀ d, d < u → wp (k d) (n + 1) Q E
  | .fail, _, _, _ => False
theorem wp_mono {Q Q' : α → Nat → Prop} {E E' : D → Nat → Prop} : ∀ {t : T α} {n : Nat}, t.wp n Q E → (∀ a m, n ≤ m → Q a m → Q' a m) → (∀ e m, n ≤ m → E e m → E' e m) → t.wp n Q' E'
  | .ret a, n, h, hq, _ => hq a n (Nat.le_refl _) h
  | .ex e, n, h, _, he => he e n (Nat.le_refl _) h
  | .draw u k, n, h, hq, he => ⟨h.1, h.2.1, h.2.2.1, fun d hd => wp_mono (h.2.2.2 d hd) (fun a m l => hq a m (Nat.le_of_succ_le l)) (fun a m l => he a m (Nat.le_of_succ_le l))⟩
  | .fail, _, h, _, _ => h.elim
theorem wp_bind {Q : β → Nat → Prop} {E : D → Nat → Prop} {f : α → T β} : ∀ {t : T α} {n : Nat}, (t.bind f).wp n Q E → t.wp n (fun a m => (f a).wp m Q E) E
  | .ret _, _, h => h
  | .ex _, _, h => h
  | .draw _ _, _, h => ⟨h.1, h.2.1, h.2.2.1, fun d hd => wp_bind (h.2.2.2 d hd)⟩
  | .fail, _, h => h.elim
theorem bind_wp {Q : β → Nat → Prop} {E : D → Nat → Prop} {f : α → T β} : ∀ {t : T α} {n : Nat}, t.wp n (fun a m => (f a).wp m Q E) E → (t.bind f).wp n Q E
  | .ret _, _, h => h
  | .ex _, _, h => h
  | .draw _ _, _, h => ⟨h.1, h.2.1, h.2.2.1, fun d hd => bind_wp (h.2.2.2 d hd)⟩
  | .fail, _, h => h.elim
theorem wp_bindX {Q : β → Nat → Prop} {E : D → Nat → Prop} {f : α → T β} {g : D → T β} : ∀ {t : T α} {n : Nat}, (t.bindX f g).wp n Q E → t.wp n (fun a m => (f a).wp m Q E) (fun e m => (g e).wp m Q E)
  | .ret _, _, h => h
  | .ex _, _, h => h
  | .draw _ _, _, h => ⟨h.1, h.2.1, h.2.2.1, fun d hd => wp_bindX (h.2.2.2 d hd)⟩
  | .fail, _, h => h.elim
theorem bindX_wp {Q : β → Nat → Prop} {E : D → Nat → Prop} {f : α → T β} {g : D → T β} : ∀ {t : T α} {n : Nat}, t.wp n (fun a m => (f a).wp m Q E) (fun e m => (g e).wp m Q E) → (t.bindX f g).wp n Q E
  | .ret _, _, h => h
  | .ex _, _, h => h
  | .draw _ _, _, h => ⟨h.1, h.2.1, h.2.2.1, fun d hd => bindX_wp (h.2.2.2 d hd)⟩
  | .fail, _, h => h.elim
end T
/-- a caught exception that is kept -/
def ExcO (a A : Addr) (dx : Option Addr) : HO := .ext fun h => ∃ o vs, h.get? a = some o ∧ o.data = .fields vs ∧ Zc (.ref A) dx o
/-- something that is no dict, and stays -/
def Keep (a : Addr) (φ : Heap → Prop) : Prop := ∀ h, φ h → ∃ o, h.get? a = some o ∧ ∀ es ep, o.data ≠ .dict es ep
theorem keep_exc {a A : Addr} {dx : Option Addr} : Keep a (fun h => ∃ o vs, h.get? a = some o ∧ o.data = .fields vs ∧ Zc (.ref A) dx o) := fun h ⟨o, vs, e, d, _⟩ => ⟨o, e, fun es ep z => by rw [d] at z; cases z⟩
theorem keep_code {c : Addr} {q : Str} : Keep c (fun h => ∃ (oc : Obj) (vs : Array Value) (t : Tok), h.get? c = some oc ∧ oc.data = .fields vs ∧ vs[1]? = some (.str q t)) := fun h ⟨o, _, _, e, d, _⟩ => ⟨o, e, fun es ep z => by rw [d] at z; cases z⟩
/-- what is true of a dict whose keys are None, numbers and nested tuples -/
def entF (hf : NestedKey → Int) (y : NestedKey × Value × Value) : DictEntry := ⟨hf y.1, y.2.1, y.2.2⟩
structure NObj (hf : NestedKey → Int) (a : Addr) (xs : List (NestedKey × V × V)) (o : Obj) : Prop where
  sz : xs.length ≤ sizeLine
  sm : (a == sysModules) = false
  nd : (xs.map (·.1)).Nodup
  ed : o.ExactDict
  da : ∃ es ep, o.data = .dict es ep ∧ ∃ ys : List (NestedKey × Value × Value), es.toList = ys.map (entF hf) ∧ Paired (fun (p : NestedKey × V × V) (q : NestedKey × Value × Value) => p.1 = q.1 ∧ L2.RelV p.2.1 q.2.1 ∧ L2.RelV p.2.2 q.2.2) xs ys
def DNx (a : Addr) (o : Obj) : HO := .ext fun h => h.get? a = some o
theorem dnx_at {P : Program} {w : World} {H : Hp} {h : Heap} {a : Addr} {o : Obj} (hok : HOk P w H h) (e : H a = some (DNx a o)) : h.get? a = some o := by
  obtain ⟨z, _⟩ := hok a _ e
  exact z
mutual
/-- a key of such a dict -/
def keyN : D → Option NestedKey
  | .non => some .none
  | .bl b => some (.num (if b = true then 1 else 0))
  | .int i => some (.num i)
  | .str x => some (.text x)
  | .tup xs => (keyNL xs).map .tup
  | .wt xs => (keyNL xs).map .tup
  | _ => none
def keyNL : List D → Option (List NestedKey)
  | [] => some []
  | d :: ds => match keyN d, keyNL ds with
    | some k, some ks => some (k :: ks)
    | _, _ => none
end
def nkD (d : D) : Option NestedKey := match keyN d with
  | some k => if k.depth ≤ 8 ∧ Mk.topK k = true then some k else none
  | none => none
theorem nkD_some {d : D} {k : NestedKey} (h : nkD d = some k) : keyN d = some k ∧ k.depth ≤ 8 ∧ Mk.topK k = true := by
  unfold nkD at h
  cases e : keyN d with
  | none => rw [e] at h; cases h
  | some l =>
    rw [e] at h
    by_cases c : l.depth ≤ 8 ∧ Mk.topK l = true
    · simp only [c, and_self, if_true] at h
      cases h
      exact ⟨rfl, c⟩
    · simp only [c, if_false] at h
      cases h
structure GC where
  hN : NestedKey → Int
  K : PySem.W.Frag
  cA : Nat → Option Addr
  T : List NTab
  fnP : Nat → Addr → Hp → List V → Prop
  fnS : ∀ id f H H' vs, fnP id f H vs → (∀ a φ, H a = some (.ext φ) → Keep a φ → H' a = some (.ext φ)) → fnP id f H' vs
  /-- the places of the cells of the store -/
  st : List Addr
  /-- what stays true of them -/
  sx : Nat → List (Addr × (Heap → Prop))
def GC.at (G : GC) (st : List Addr) : GC := ⟨G.hN, G.K, G.cA, G.T, G.fnP, G.fnS, st, fun _ => []⟩
def GC.ats (G : GC) (st : List Addr) (sx : Nat → List (Addr × (Heap → Prop))) : GC := ⟨G.hN, G.K, G.cA, G.T, G.fnP, G.fnS, st, sx⟩
structure Cf where
  F : Addr → Prop
  pen : Option (Addr × Addr)
  /-- the object that an __init__ is making: its place, its class, its dict -/
  me : Option (Addr × Addr × Addr)
def Cf.pa (C : Cf) : List Addr := match C.pen with
  | some (p, c) => [p, c]
  | none => []
/-- with every list, for a look -/
def Cf.vw (C : Cf) (b : Bool) : Cf := ⟨fun a => C.F a ∨ (b = true ∧ a ∉ C.pa), C.pen, C.me⟩
def noTbl (o : HO) : Prop := ∀ ps, o ≠ .tbl ps
mutual
inductive Rep (G : GC) (C : Cf) (H : Hp) : V → D → Prop
  | non : Rep G C H .non .non
  | bl (b : Bool) : Rep G C H (.bl b) (.bl b)
  | int (i : Int) : Rep G C H (.int i) (.int i)
  | str (x : Str) : Rep G C H (.str x) (.str x)
  | tup {a : Addr} {vs : List V} {ds : List D} : H a = some (.tup vs) → RepL G C H vs ds → Rep G C H (.ref a) (.tup ds)
  | wt {a : Addr} {vs : List V} {ds : List D} : SqT G.K (fun _ => none) a vs → RepL G C H vs ds → Rep G C H (.ref a) (.wt ds)
  | lst {a : Addr} {vs : List V} {ds : List D} : C.F a → H a = some (.lst vs) → RepL G C H vs ds → Rep G C H (.ref a) (.lst ds)
  | dK {a : Addr} {vs : List (Key × V)} {ds : List (Key × D)} : C.F a → H a = some (.dK vs) → RepK G C H vs ds → Rep G C H (.ref a) (.dK ds)
  | dT {a : Addr} {vs : List (List Key × V)} {ds : List (List Key × D)} : C.F a → H a = some (.dT vs) → RepT G C H vs ds → Rep G C H (.ref a) (.dT ds)
  | dN {a : Addr} {o : Obj} {vs : List (NestedKey × V × V)} {ds : List (D × D)} : C.F a → H a = some (DNx a o) → NObj G.hN a vs o → RepN G C H vs ds → Rep G C H (.ref a) (.dN ds)
  | obj {a A dx : Addr} {c : Nat} {vs : List (Str × V)} {ds : List (Str × D)} : C.F a → H a = some (.ins A dx vs) → G.cA c = some A → RepF G C H vs ds → Rep G C H (.ref a) (.obj c ds)
  | exc {a A : Addr} {c : Nat} : H a = some (ExcO a A none) → G.cA c = some A → Rep G C H (.ref a) (.exc c [])
  | fn {f : Addr} {id : Nat} {vs : List V} {ds : List D} : G.fnP id f H vs → RepL G C H vs ds → Rep G C H (.ref f) (.fn id ds)
  | ty (n : String) : Rep G C H (.ty n) (.ty n)
  | cls {a : Addr} {c : Nat} : G.cA c = some a → Rep G C H (.ref a) (.cls c)
  | pen {p c : Addr} : C.pen = some (p, c) → Rep G C H (.ref p) .pen
  | scr {a : Addr} {ns : List Int} : (∃ o, H a = some (.frz o (.lst (ns.map V.int)))) → Rep G C H (.ref a) .scr
  /-- a list that is lent: read, not kept -/
  | bw {a : Addr} {vs : List V} {ds : List D} : (∃ o, H a = some (.frz o (.lst vs))) → RepL G C H vs ds → Rep G C H (.ref a) (.bw ds)
  /-- a cell of the store -/
  | rf {a : Addr} {k : Nat} : (G.st[k]? = some a ∧ ∀ p ∈ G.sx k, H p.1 = some (.ext p.2) ∧ Keep p.1 p.2) → Rep G C H (.ref a) (.rf k)
inductive RepL (G : GC) (C : Cf) (H : Hp) : List V → List D → Prop
  | nil : RepL G C H [] []
  | cons {v : V} {vs : List V} {d : D} {ds : List D} : Rep G C H v d → RepL G C H vs ds → RepL G C H (v :: vs) (d :: ds)
inductive RepK (G : GC) (C : Cf) (H : Hp) : List (Key × V) → List (Key × D) → Prop
  | nil : RepK G C H [] []
  | cons {k : Key} {v : V} {vs : List (Key × V)} {d : D} {ds : List (Key × D)} : Rep G C H v d → RepK G C H vs ds → RepK G C H ((k, v) :: vs) ((k, d) :: ds)
inductive RepT (G : GC) (C : Cf) (H : Hp) : List (List Key × V) → List (List Key × D) → Prop
  | nil : RepT G C H [] []
  | cons {k : List Key} {v : V} {vs : List (List Key × V)} {d : D} {ds : List (List Key × D)} : Rep G C H v d → RepT G C H vs ds → RepT G C H ((k, v) :: vs) ((k, d) :: ds)
inductive RepN (G : GC) (C : Cf) (H : Hp) : List (NestedKey × V × V) → List (D × D) → Prop
  | nil : RepN G C H [] []
  | cons {k : NestedKey} {kv v : V} {vs : List (NestedKey × V × V)} {kd d : D} {ds : List (D × D)} : nkD kd = some k → Rep G C H kv kd → Rep G C H v d → RepN G C H vs ds → RepN G C H ((k, kv, v) :: vs) ((kd, d) :: ds)
inductive RepF (G : GC) (C : Cf) (H : Hp) : List (Str × V) → List (Str × D) → Prop
  | nil : RepF G C H [] []
  | cons {k : Str} {v : V} {vs : List (Str × V)} {d : D} {ds : List (Str × D)} : Rep G C H v d → RepF G C H vs ds → RepF G C H ((k, v) :: vs) ((k, d) :: ds)
end
/-- what frozen things lean on stays -/
structure Nx (C C' : Cf) (H H' : Hp) : Prop where
  fk : ∀ a o, C.F a → H a = some o → noTbl o → C'.F a ∧ H' a = some o
  tp : ∀ a xs, H a = some (.tup xs) → H' a = some (.tup xs)
  fp : ∀ a o u, H a = some (.frz o u) → H' a = some (.frz o u)
  xp : ∀ a φ, H a = some (.ext φ) → Keep a φ → H' a = some (.ext φ)
  pn : ∀ q, C.pen = some q → C'.pen = some q
theorem sqT_wt {K : PySem.W.Frag} {H : Hp} {a : Addr} {vs : List V} (h : SqT K (fun _ => none) a vs) : SqT K H a vs := by
  rcases h with (h | ⟨o, h⟩) | h
  · cases h
  · cases h
  · exact .inr h
section
variable {G : GC} {C C' : Cf} {H H' : Hp}
mutual
theorem Rep.nx (n : Nx C C' H H') : ∀ {v : V} {d : D}, Rep G C H v d → Rep G C' H' v d
  | _, _, .non => .non
  | _, _, .bl b => .bl b
  | _, _, .int i => .int i
  | _, _, .str x => .str x
  | _, _, .tup h l => .tup (n.tp _ _ h) (RepL.nx n l)
  | _, _, .wt h l => .wt h (RepL.nx n l)
  | _, _, .lst f h l => .lst (n.fk _ _ f h (fun _ z => nomatch z)).1 (n.fk _ _ f h (fun _ z => nomatch z)).2 (RepL.nx n l)
  | _, _, .dK f h l => .dK (n.fk _ _ f h (fun _ z => nomatch z)).1 (n.fk _ _ f h (fun _ z => nomatch z)).2 (RepK.nx n l)
  | _, _, .dT f h l => .dT (n.fk _ _ f h (fun _ z => nomatch z)).1 (n.fk _ _ f h (fun _ z => nomatch z)).2 (RepT.nx n l)
  | _, _, .dN f h z l => .dN (n.fk _ _ f h (fun _ z => nomatch z)).1 (n.fk _ _ f h (fun _ z => nomatch z)).2 z (RepN.nx n l)
  | _, _, .obj f h c l => .obj (n.fk _ _ f h (fun _ z => nomatch z)).1 (n.fk _ _ f h (fun _ z => nomatch z)).2 c (RepF.nx n l)
  | _, _, .exc h c => .exc (n.xp _ _ h keep_exc) c
  | _, _, .fn h l => .fn (G.fnS _ _ _ _ _ h n.xp) (RepL.nx n l)
  | _, _, .ty x => .ty x
  | _, _, .cls c => .cls c
  | _, _, .pen h => .pen (n.pn _ h)
  | _, _, .scr ⟨o, h⟩ => .scr ⟨o, n.fp _ _ _ h⟩
  | _, _, .bw ⟨o, h⟩ l => .bw ⟨o, n.fp _ _ _ h⟩ (RepL.nx n l)
  | _, _, .rf h => .rf ⟨h.1, fun p m => ⟨n.xp _ _ (h.2 p m).1 (h.2 p m).2, (h.2 p m).2⟩⟩
theorem RepL.nx (n : Nx C C' H H') : ∀ {v : List V} {d : List D}, RepL G C H v d → RepL G C' H' v d
  | _, _, .nil => .nil
  | _, _, .cons h l => .cons (Rep.nx n h) (RepL.nx n l)
theorem RepK.nx (n : Nx C C' H H') : ∀ {v : List (Key × V)} {d : List (Key × D)}, RepK G C H v d → RepK G C' H' v d
  | _, _, .nil => .nil
  | _, _, .cons h l => .cons (Rep.nx n h) (RepK.nx n l)
theorem RepT.nx (n : Nx C C' H H') : ∀ {v : List (List Key × V)} {d : List (List Key × D)}, RepT G C H v d → RepT G C' H' v d
  | _, _, .nil => .nil
  | _, _, .cons h l => .cons (Rep.nx n h) (RepT.nx n l)
theorem RepN.nx (n : Nx C C' H H') : ∀ {v : List (NestedKey × V × V)} {d : List (D × D)}, RepN G C H v d → RepN G C' H' v d
  | _, _, .nil => .nil
  | _, _, .cons e k h l => .cons e (Rep.nx n k) (Rep.nx n h) (RepN.nx n l)
theorem RepF.nx (n : Nx C C' H H') : ∀ {v : List (Str × V)} {d : List (Str × D)}, RepF G C H v d → RepF G C' H' v d
  | _, _, .nil => .nil
  | _, _, .cons h l => .cons (Rep.nx n h) (RepF.nx n l)
end
theorem Nx.view (C : Cf) (b : Bool) (H : Hp) : Nx C (C.vw b) H H := ⟨fun _ _ f h _ => ⟨.inl f, h⟩, fun _ _ h => h, fun _ _ _ h => h, fun _ _ h _ => h, fun _ h => h⟩
theorem Rep.view {v : V} {d : D} (b : Bool) (r : Rep G C H v d) : Rep G (C.vw b) H v d := r.nx (Nx.view C b H)
theorem Nx.unview (C : Cf) (H : Hp) : Nx (C.vw false) C H H := ⟨fun _ _ f h _ => ⟨f.elim id (fun z => nomatch z.1), h⟩, fun _ _ h => h, fun _ _ _ h => h, fun _ _ h _ => h, fun _ h => h⟩
theorem Rep.unview {v : V} {d : D} (r : Rep G (C.vw false) H v d) : Rep G C H v d := r.nx (Nx.unview C H)
theorem RepL.length {vs : List V} {ds : List D} (r : RepL G C H vs ds) : vs.length = ds.length := by
  induction vs generalizing ds with
  | nil => cases r; rfl
  | cons v vs ih => cases r with | cons _ l => simp [ih l]
theorem RepL.append : ∀ {vs ws : List V} {ds es : List D}, RepL G C H vs ds → RepL G C H ws es → RepL G C H (vs ++ ws) (ds ++ es)
  | _, _, _, _, .nil, s => s
  | _, _, _, _, .cons r t, s => .cons r (RepL.append t s)
theorem RepL.get : ∀ {vs : List V} {ds : List D} {i : Nat} {d : D}, RepL G C H vs ds → ds[i]? = some d → ∃ v, vs[i]? = some v ∧ Rep G C H v d
  | _, _, _, _, .nil, e => by simp at e
  | _, _, 0, _, .cons r _, e => by simp at e; subst e; exact ⟨_, rfl, r⟩
  | _, _, i + 1, x, .cons _ t, e => by
    obtain ⟨u, h1, h2⟩ := RepL.get (i := i) (d := x) t (by simpa using e)
    exact ⟨u, by simpa using h1, h2⟩
theorem RepL.take : ∀ {vs : List V} {ds : List D} (n : Nat), RepL G C H vs ds → RepL G C H (vs.take n) (ds.take n)
  | _, _, 0, _ => .nil
  | _, _, _ + 1, .nil => .nil
  | _, _, n + 1, .cons r t => .cons r (RepL.take n t)
theorem RepL.drop : ∀ {vs : List V} {ds : List D} (n : Nat), RepL G C H vs ds → RepL G C H (vs.drop n) (ds.drop n)
  | _, _, 0, r => r
  | _, _, _ + 1, .nil => .nil
  | _, _, n + 1, .cons _ t => RepL.drop n t
theorem RepL.set {v : V} {d : D} (r : Rep G C H v d) : ∀ {vs : List V} {ds : List D} (i : Nat), RepL G C H vs ds → RepL G C H (vs.set i v) (ds.set i d)
  | _, _, _, .nil => .nil
  | _, _, 0, .cons _ t => .cons r t
  | _, _, i + 1, .cons q t => .cons q (RepL.set r i t)
theorem RepL.eraseIdx : ∀ {vs : List V} {ds : List D} (i : Nat), RepL G C H vs ds → RepL G C H (vs.eraseIdx i) (ds.eraseIdx i)
  | _, _, _, .nil => .nil
  | _, _, 0, .cons _ t => t
  | _, _, i + 1, .cons q t => .cons q (RepL.eraseIdx i t)
theorem RepL.nil_iff {vs : List V} {ds : List D} (r : RepL G C H vs ds) : vs = [] ↔ ds = [] := by
  cases r <;> simp
end
/-- a field of an object of one's own: frozen, or a thing of its own -/
inductive FO where
  | fz (d : D) | ls (xs : List D) | dk (kvs : List (Key × D)) | dt (kvs : List (List Key × D))
def FO.toD : FO → D
  | .fz d => d
  | .ls xs => .lst xs
  | .dk kvs => .dK kvs
  | .dt kvs => .dT kvs
inductive O where
  | mo (c : Nat) (fs : List (Str × FO)) | fz (d : D) | me (c : Nat) (fs : List (Str × D)) | ls (xs : List D) | dk (kvs : List (Key × D)) | dt (kvs : List (List Key × D)) | dn (kvs : List (D × D)) | ll (xss : List (List D)) | ob (c : Nat) (fs : List (Str × FO)) | tl (k : Nat) (ds xs : List D) | gl (k : Nat) (ds : List D) (xss : List (List D))
def O.toD : O → D
  | .fz d => d
  | .ls xs => .lst xs
  | .dk kvs => .dK kvs
  | .dt kvs => .dT kvs
  | .dn kvs => .dN kvs
  | .ll xss => .lst (xss.map .lst)
  | .ob c fs => .obj c (fs.map fun p => (p.1, p.2.toD))
  | .mo c fs => .obj c (fs.map fun p => (p.1, p.2.toD))
  | .tl k ds xs => .tup (ds.set k (.lst xs))
  | .gl k ds xss => .lst (ds.set k (.lst (xss.map .lst)))
  | .me c fs => .obj c fs
abbrev Env := List (Option O)
inductive OwnL (G : GC) (C : Cf) (H : Hp) : List Addr → List (List D) → Prop
  | nil : OwnL G C H [] []
  | cons {a : Addr} {as : List Addr} {vs : List V} {ds : List D} {dss : List (List D)} : H a = some (.lst vs) → RepL G C H vs ds → OwnL G C H as dss → OwnL G C H (a :: as) (ds :: dss)
inductive OwnF (G : GC) (C : Cf) (H : Hp) : List (Str × V) → List (Str × FO) → List Addr → Prop
  | nil : OwnF G C H [] [] []
  | fz {k : Str} {v : V} {d : D} {vs : List (Str × V)} {fs : List (Str × FO)} {us : List Addr} : Rep G C H v d → OwnF G C H vs fs us → OwnF G C H ((k, v) :: vs) ((k, .fz d) :: fs) us
  | ls {k : Str} {a : Addr} {ws : List V} {xs : List D} {vs : List (Str × V)} {fs : List (Str × FO)} {us : List Addr} : H a = some (.lst ws) → RepL G C H ws xs → OwnF G C H vs fs us → OwnF G C H ((k, .ref a) :: vs) ((k, .ls xs) :: fs) (a :: us)
  | dk {k : Str} {a : Addr} {ws : List (Key × V)} {xs : List (Key × D)} {vs : List (Str × V)} {fs : List (Str × FO)} {us : List Addr} : H a = some (.dK ws) → RepK G C H ws xs → OwnF G C H vs fs us → OwnF G C H ((k, .ref a) :: vs) ((k, .dk xs) :: fs) (a :: us)
  | dt {k : Str} {a : Addr} {ws : List (List Key × V)} {xs : List (List Key × D)} {vs : List (Str × V)} {fs : List (Str × FO)} {us : List Addr} : H a = some (.dT ws) → RepT G C H ws xs → OwnF G C H vs fs us → OwnF G C H ((k, .ref a) :: vs) ((k, .dt xs) :: fs) (a :: us)
inductive OwnR (G : GC) (C : Cf) (H : Hp) : V → O → List Addr → Prop
  | fz {v : V} {d : D} : Rep G C H v d → OwnR G C H v (.fz d) []
  | ls {a : Addr} {vs : List V} {ds : List D} : H a = some (.lst vs) → RepL G C H vs ds → OwnR G C H (.ref a) (.ls ds) [a]
  | dk {a : Addr} {vs : List (Key × V)} {ds : List (Key × D)} : H a = some (.dK vs) → RepK G C H vs ds → OwnR G C H (.ref a) (.dk ds) [a]
  | dt {a : Addr} {vs : List (List Key × V)} {ds : List (List Key × D)} : H a = some (.dT vs) → RepT G C H vs ds → OwnR G C H (.ref a) (.dt ds) [a]
  | dn {a : Addr} {o : Obj} {vs : List (NestedKey × V × V)} {ds : List (D × D)} : H a = some (DNx a o) → NObj G.hN a vs o → RepN G C H vs ds → OwnR G C H (.ref a) (.dn ds) [a]
  | ll {a : Addr} {as : List Addr} {dss : List (List D)} : H a = some (.lst (as.map V.ref)) → OwnL G C H as dss → OwnR G C H (.ref a) (.ll dss) (a :: as)
  | ob {a A dx : Addr} {c : Nat} {vs : List (Str × V)} {fs : List (Str × FO)} {us : List Addr} : H a = some (.ins A dx vs) → G.cA c = some A → OwnF G C H vs fs us → OwnR G C H (.ref a) (.ob c fs) (a :: us)
  /-- self, in a method that changes it -/
  | mo {a A dx : Addr} {c : Nat} {vs : List (Str × V)} {fs : List (Str × FO)} {us : List Addr} : C.me = some (a, A, dx) → H a = some (.ins A dx vs) → G.cA c = some A → OwnF G C H vs fs us → OwnR G C H (.ref a) (.mo c fs) (a :: us)
  | me {a A dx : Addr} {c : Nat} {vs : List (Str × V)} {ds : List (Str × D)} : C.me = some (a, A, dx) → H a = some (.ins A dx vs) → G.cA c = some A → RepF G C H vs ds → OwnR G C H (.ref a) (.me c ds) [a]
  /-- a tuple whose k-th item is a list of one's own -/
  | tl {a b : Addr} {k : Nat} {vs ws : List V} {ds xs : List D} : H a = some (.tup vs) → vs[k]? = some (.ref b) → RepL G C H (vs.set k .non) ds → H b = some (.lst ws) → RepL G C H ws xs → OwnR G C H (.ref a) (.tl k ds xs) [b]
  /-- a list whose k-th item is a list of lists, all of one's own -/
  | gl {a b : Addr} {as : List Addr} {k : Nat} {vs : List V} {ds : List D} {dss : List (List D)} : H a = some (.lst vs) → vs[k]? = some (.ref b) → RepL G C H (vs.set k .non) ds → H b = some (.lst (as.map V.ref)) → OwnL G C H as dss → OwnR G C H (.ref a) (.gl k ds dss) (a :: b :: as)
theorem set_back {α : Type} {vs : List α} {k : Nat} {v w : α} (h : vs[k]? = some v) : (vs.set k w).set k v = vs := by
  rw [List.set_set]
  obtain ⟨h1, h2⟩ := List.getElem?_eq_some_iff.mp h
  rw [← h2]
  exact List.set_getElem_self h1
inductive EnvR (G : GC) (C : Cf) (H : Hp) : St → Env → List Addr → Prop
  | nil : EnvR G C H [] [] []
  | skip {s : Option V} {σ : St} {env : Env} {us : List Addr} : EnvR G C H σ env us → EnvR G C H (s :: σ) (none :: env) us
  | has {v : V} {o : O} {us1 us : List Addr} {σ : St} {env : Env} : OwnR G C H v o us1 → EnvR G C H σ env us → EnvR G C H (some v :: σ) (some o :: env) (us1 ++ us)
structure Wf (G : GC) (C : Cf) (n : Nat) (H : Hp) : Prop where
  pen : ∀ p c, C.pen = some (p, c) → PenAt H p c n
  fz : ∀ a, C.F a → (∃ o, H a = some o ∧ noTbl o) ∧ a ∉ C.pa
  tab : TabsN G.T H
structure Step (us : List Addr) (C : Cf) (H : Hp) (C' : Cf) (H' : Hp) : Prop where
  kp : ∀ a o, H a = some o → noTbl o → a ∉ us → a ∉ C.pa → H' a = some o
  al : ∀ a o, H a = some o → ∃ o', H' a = some o'
  nx : Nx C C' H H'
  fn : ∀ a, C'.F a → C.F a ∨ a ∈ us ∨ H a = none
  pf : ∀ a, a ∈ C'.pa → a ∈ C.pa ∨ H a = none
  me : C'.me = C.me
theorem Nx.refl (C : Cf) (H : Hp) : Nx C C H H := ⟨fun _ _ f h _ => ⟨f, h⟩, fun _ _ h => h, fun _ _ _ h => h, fun _ _ h _ => h, fun _ h => h⟩
theorem Nx.trans {C C1 C2 : Cf} {H H1 H2 : Hp} (a : Nx C C1 H H1) (b : Nx C1 C2 H1 H2) : Nx C C2 H H2 :=
  ⟨fun x o f h t => b.fk x o (a.fk x o f h t).1 (a.fk x o f h t).2 t, fun x xs h => b.tp x xs (a.tp x xs h), fun x o u h => b.fp x o u (a.fp x o u h), fun x φ h k => b.xp x φ (a.xp x φ h k) k, fun q h => b.pn q (a.pn q h)⟩
theorem Step.refl (us : List Addr) (C : Cf) (H : Hp) : Step us C H C H := ⟨fun _ _ h _ _ _ => h, fun _ o h => ⟨o, h⟩, Nx.refl C H, fun _ h => .inl h, fun _ h => .inl h, rfl⟩
theorem Step.trans {us us' : List Addr} {C C1 C2 : Cf} {H H1 H2 : Hp} (a : Step us C H C1 H1) (b : Step us' C1 H1 C2 H2) (hu : ∀ x ∈ us', x ∈ us ∨ H x = none) : Step us C H C2 H2 := by
  have back : ∀ x, H1 x = none → H x = none := fun x h => by
    cases e : H x with
    | none => rfl
    | some o =>
      obtain ⟨o', h'⟩ := a.al x o e
      rw [h'] at h
      cases h
  refine ⟨fun x o h t h1 h2 => ?_, fun x o h => ?_, a.nx.trans b.nx, fun x h => ?_, fun x h => ?_, b.me.trans a.me⟩
  · refine b.kp x o (a.kp x o h t h1 h2) t (fun z => ?_) (fun z => ?_)
    · rcases hu x z with z | z
      · exact h1 z
      · rw [h] at z; cases z
    · rcases a.pf x z with z | z
      · exact h2 z
      · rw [h] at z; cases z
  · obtain ⟨o', h'⟩ := a.al x o h
    exact b.al x o' h'
  · rcases b.fn x h with z | z | z
    · exact a.fn x z
    · exact .inr (hu x z)
    · exact .inr (.inr (back x z))
  · rcases b.pf x h with z | z
    · exact a.pf x z
    · exact .inr (back x z)
theorem Step.up {us us' : List Addr} {C C' : Cf} {H H' : Hp} (a : Step us C H C' H') (hu : ∀ x ∈ us, x ∈ us') : Step us' C H C' H' :=
  ⟨fun x o h t h1 h2 => a.kp x o h t (fun z => h1 (hu x z)) h2, a.al, a.nx, fun x h => (a.fn x h).elim .inl fun z => z.elim (fun y => .inr (.inl (hu x y))) fun y => .inr (.inr y), a.pf, a.me⟩
structure Ok (G : GC) (C : Cf) (n : Nat) (σ : St) (env : Env) (us : List Addr) (H : Hp) : Prop where
  wf : Wf G C n H
  env : EnvR G C H σ env us
  nd : us.Nodup
  us : ∀ a ∈ us, ¬ C.F a ∧ a ∉ C.pa ∧ ∃ o, H a = some o ∧ noTbl o
section
variable {G : GC} {C C' : Cf} {H H' : Hp}
theorem OwnL.nx (n : Nx C C' H H') : ∀ {as : List Addr} {ds : List (List D)}, OwnL G C H as ds → (∀ a ∈ as, ∀ o, H a = some o → H' a = some o) → OwnL G C' H' as ds
  | _, _, .nil, _ => .nil
  | _, _, .cons h r l, k => .cons (k _ (List.mem_cons_self ..) _ h) (r.nx n) (OwnL.nx n l fun a m => k a (List.mem_cons_of_mem _ m))
theorem OwnF.nx (n : Nx C C' H H') : ∀ {vs : List (Str × V)} {fs : List (Str × FO)} {us : List Addr}, OwnF G C H vs fs us → (∀ a ∈ us, ∀ o, H a = some o → H' a = some o) → OwnF G C' H' vs fs us
  | _, _, _, .nil, _ => .nil
  | _, _, _, .fz r l, k => .fz (r.nx n) (OwnF.nx n l k)
  | _, _, _, .ls h r l, k => .ls (k _ (List.mem_cons_self ..) _ h) (r.nx n) (OwnF.nx n l fun a m => k a (List.mem_cons_of_mem _ m))
  | _, _, _, .dk h r l, k => .dk (k _ (List.mem_cons_self ..) _ h) (r.nx n) (OwnF.nx n l fun a m => k a (List.mem_cons_of_mem _ m))
  | _, _, _, .dt h r l, k => .dt (k _ (List.mem_cons_self ..) _ h) (r.nx n) (OwnF.nx n l fun a m => k a (List.mem_cons_of_mem _ m))
theorem OwnR.nx (n : Nx C C' H H') (hm : C'.me = C.me) {v : V} {o : O} {us : List Addr} (r : OwnR G C H v o us) (k : ∀ a ∈ us, ∀ o, H a = some o → H' a = some o) : OwnR G C' H' v o us := by
  cases r with
  | fz h => exact .fz (h.nx n)
  | ls h l => exact .ls (k _ (List.mem_cons_self ..) _ h) (l.nx n)
  | dk h l => exact .dk (k _ (List.mem_cons_self ..) _ h) (l.nx n)
  | dt h l => exact .dt (k _ (List.mem_cons_self ..) _ h) (l.nx n)
  | dn h z l => exact .dn (k _ (List.mem_cons_self ..) _ h) z (l.nx n)
  | ll h l => exact .ll (k _ (List.mem_cons_self ..) _ h) (l.nx n fun a m => k a (List.mem_cons_of_mem _ m))
  | ob h c l => exact .ob (k _ (List.mem_cons_self ..) _ h) c (l.nx n fun a m => k a (List.mem_cons_of_mem _ m))
  | mo e h c l => exact .mo (hm.trans e) (k _ (List.mem_cons_self ..) _ h) c (l.nx n fun a m => k a (List.mem_cons_of_mem _ m))
  | me e h c l => exact .me (hm.trans e) (k _ (List.mem_cons_self ..) _ h) c (l.nx n)
  | tl h e l hb q => exact .tl (n.tp _ _ h) e (l.nx n) (k _ (List.mem_cons_self ..) _ hb) (q.nx n)
  | gl h e l hb q => exact .gl (k _ (List.mem_cons_self ..) _ h) e (l.nx n) (k _ (List.mem_cons_of_mem _ (List.mem_cons_self ..)) _ hb) (q.nx n fun a m => k a (List.mem_cons_of_mem _ (List.mem_cons_of_mem _ m)))
theorem EnvR.nx (n : Nx C C' H H') (hm : C'.me = C.me) : ∀ {σ : St} {env : Env} {us : List Addr}, EnvR G C H σ env us → (∀ a ∈ us, ∀ o, H a = some o → H' a = some o) → EnvR G C' H' σ env us
  | _, _, _, .nil, _ => .nil
  | _, _, _, .skip r, k => .skip (EnvR.nx n hm r k)
  | _, _, _, .has r q, k => .has (r.nx n hm fun a m => k a (List.mem_append_left _ m)) (EnvR.nx n hm q fun a m => k a (List.mem_append_right _ m))
/-- a quiet step -/
theorem Ok.q {n n' : Nat} {σ : St} {env : Env} {us : List Addr} (k : Ok G C n σ env us H) (s : Step [] C H C' H') (w : Wf G C' n' H') : Ok G C' n' σ env us H' := by
  have keep : ∀ a ∈ us, ∀ o, H a = some o → H' a = some o := fun a m o h => by
    obtain ⟨_, h2, o', h3, h4⟩ := k.us a m
    rw [h] at h3
    cases h3
    exact s.kp a o h h4 (by simp) h2
  refine ⟨w, k.env.nx s.nx s.me keep, k.nd, fun a m => ?_⟩
  obtain ⟨h1, h2, o, h3, h4⟩ := k.us a m
  refine ⟨fun z => ?_, fun z => ?_, o, keep a m o h3, h4⟩
  · rcases s.fn a z with y | y | y
    · exact h1 y
    · cases y
    · rw [h3] at y; cases y
  · rcases s.pf a z with y | y
    · exact h2 y
    · rw [h3] at y; cases y
theorem EnvR.len : ∀ {σ : St} {env : Env} {us : List Addr}, EnvR G C H σ env us → σ.length = env.length
  | _, _, _, .nil => rfl
  | _, _, _, .skip r => congrArg (· + 1) (EnvR.len r)
  | _, _, _, .has _ r => congrArg (· + 1) (EnvR.len r)
theorem EnvR.at : ∀ {σ : St} {env : Env} {us : List Addr} {i : Nat} {o : O}, EnvR G C H σ env us → env[i]? = some (some o) → ∃ v us1, σ[i]? = some (some v) ∧ OwnR G C H v o us1 ∧ ∀ a ∈ us1, a ∈ us
  | _, _, _, _, _, .nil, e => by simp at e
  | _, _, _, 0, _, .skip _, e => by simp at e
  | _, _, _, i + 1, o, .skip r, e => by
    obtain ⟨v, us1, h1, h2, h3⟩ := EnvR.at (i := i) (o := o) r (by simpa using e)
    exact ⟨v, us1, by simpa using h1, h2, h3⟩
  | _, _, _, 0, o, .has r _, e => by
    simp at e
    subst e
    exact ⟨_, _, rfl, r, fun a m => List.mem_append_left _ m⟩
  | _, _, _, i + 1, o, .has _ r, e => by
    obtain ⟨v, us1, h1, h2, h3⟩ := EnvR.at (i := i) (o := o) r (by simpa using e)
    exact ⟨v, us1, by simpa using h1, h2, fun a m => List.mem_append_right _ (h3 a m)⟩
/-- a slot gets a frozen thing -/
theorem EnvR.put {d : D} {v : V} (rv : Rep G C H v d) : ∀ {σ : St} {env : Env} {us : List Addr} (i : Nat), EnvR G C H σ env us → ∃ us', EnvR G C H (σ.set i (some v)) (env.set i (some (.fz d))) us' ∧ us'.Sublist us
  | _, _, _, _, .nil => ⟨[], .nil, List.Sublist.refl _⟩
  | _, _, _, 0, .skip r => ⟨_, .has (.fz rv) r, List.Sublist.refl _⟩
  | _, _, _, i + 1, .skip r => by
    obtain ⟨us', h1, h2⟩ := EnvR.put rv i r
    exact ⟨us', .skip h1, h2⟩
  | _, _, _, 0, .has (us1 := us1) (us := us) _ r => ⟨us, .has (.fz rv) r, List.sublist_append_right us1 us⟩
  | _, _, _, i + 1, .has q r => by
    obtain ⟨us', h1, h2⟩ := EnvR.put rv i r
    exact ⟨_, .has q h1, h2.append_left _⟩
theorem EnvR.wipe : ∀ {σ : St} {env : Env} {us : List Addr} (i : Nat) (s : Option V), EnvR G C H σ env us → ∃ us', EnvR G C H (σ.set i s) (env.set i none) us' ∧ us'.Sublist us
  | _, _, _, _, _, .nil => ⟨[], .nil, List.Sublist.refl _⟩
  | _, _, _, 0, _, .skip r => ⟨_, .skip r, List.Sublist.refl _⟩
  | _, _, _, i + 1, s, .skip r => by
    obtain ⟨us', h1, h2⟩ := EnvR.wipe i s r
    exact ⟨us', .skip h1, h2⟩
  | _, _, _, 0, _, .has (us1 := us1) (us := us) _ r => ⟨_, .skip r, List.sublist_append_right us1 us⟩
  | _, _, _, i + 1, s, .has q r => by
    obtain ⟨us', h1, h2⟩ := EnvR.wipe i s r
    exact ⟨_, .has q h1, h2.append_left _⟩
theorem Ok.sub {n : Nat} {σ σ' : St} {env env' : Env} {us us' : List Addr} (k : Ok G C n σ env us H) (e : EnvR G C H σ' env' us') (s : us'.Sublist us) : Ok G C n σ' env' us' H :=
  ⟨k.wf, e, k.nd.sublist s, fun a m => k.us a (s.subset m)⟩
theorem Ok.put {n : Nat} {σ : St} {env : Env} {us : List Addr} {d : D} {v : V} (k : Ok G C n σ env us H) (rv : Rep G C H v d) (i : Nat) : ∃ us', Ok G C n (σ.set i (some v)) (env.set i (some (.fz d))) us' H ∧ ∀ a ∈ us', a ∈ us := by
  obtain ⟨us', h1, h2⟩ := k.env.put rv i
  exact ⟨us', k.sub h1 h2, fun a m => h2.subset m⟩
end
theorem Step.vw {C C' : Cf} {H H' : Hp} (s : Step [] C H C' H') (b : Bool) : Nx (C.vw b) (C'.vw b) H H' := by
  refine ⟨fun a o f h t => ?_, s.nx.tp, s.nx.fp, s.nx.xp, s.nx.pn⟩
  rcases f with f | ⟨f1, f2⟩
  · exact ⟨.inl (s.nx.fk a o f h t).1, (s.nx.fk a o f h t).2⟩
  · refine ⟨.inr ⟨f1, fun z => ?_⟩, s.kp a o h t (by simp) f2⟩
    rcases s.pf a z with y | y
    · exact f2 y
    · rw [h] at y; cases y
section
variable {G : GC} {C : Cf} {H : Hp}
/-- the new thing at p is frozen from its birth -/
def Cf.add (C : Cf) (p : Addr) : Cf := ⟨fun a => a = p ∨ C.F a, C.pen, C.me⟩
theorem step_new {p : Addr} {o : HO} (hp : H p = none) : Step [] C H (C.add p) (upd H p o) := by
  have k : ∀ a u, H a = some u → upd H p o a = some u := fun a u h => by rw [upd_ne (ne_of_none h hp)]; exact h
  exact ⟨fun a u h _ _ _ => k a u h, fun a u h => ⟨u, k a u h⟩, ⟨fun a u f h _ => ⟨.inr f, k a u h⟩, fun a xs h => k a _ h, fun a u x h => k a _ h, fun a φ h _ => k a _ h, fun _ h => h⟩,
    fun a h => h.elim (fun z => .inr (.inr (by rw [z]; exact hp))) .inl, fun a h => .inl h, rfl⟩
theorem step_tup {p : Addr} {o : HO} (hp : H p = none) : Step [] C H C (upd H p o) := by
  have k : ∀ a u, H a = some u → upd H p o a = some u := fun a u h => by rw [upd_ne (ne_of_none h hp)]; exact h
  exact ⟨fun a u h _ _ _ => k a u h, fun a u h => ⟨u, k a u h⟩, ⟨fun a u f h _ => ⟨f, k a u h⟩, fun a xs h => k a _ h, fun a u x h => k a _ h, fun a φ h _ => k a _ h, fun _ h => h⟩, fun a h => .inl h, fun a h => .inl h, rfl⟩
theorem Wf.pne {n : Nat} (w : Wf G C n H) {p : Addr} (hp : H p = none) : p ∉ C.pa := fun z => by
  unfold Cf.pa at z
  cases e : C.pen with
  | none => rw [e] at z; cases z
  | some q =>
    obtain ⟨a, c⟩ := q
    rw [e] at z
    have P := w.pen a c e
    rcases List.mem_cons.mp z with z | z
    · exact P.neP hp z
    · exact P.neC hp (List.mem_singleton.mp z)
theorem Wf.new {n : Nat} (w : Wf G C n H) {p : Addr} {o : HO} (hp : H p = none) (t : noTbl o) : Wf G (C.add p) n (upd H p o) := by
  refine ⟨fun a c e => (w.pen a c e).same (same_new hp), fun a h => ?_, w.tab.ext (same_new hp)⟩
  rcases h with h | h
  · rw [h]
    exact ⟨⟨o, upd_same, t⟩, w.pne hp⟩
  · obtain ⟨⟨u, h1, h2⟩, h3⟩ := w.fz a h
    exact ⟨⟨u, same_new hp _ _ h1, h2⟩, h3⟩
theorem Wf.tup {n : Nat} (w : Wf G C n H) {p : Addr} {o : HO} (hp : H p = none) : Wf G C n (upd H p o) := by
  refine ⟨fun a c e => (w.pen a c e).same (same_new hp), fun a h => ?_, w.tab.ext (same_new hp)⟩
  obtain ⟨⟨u, h1, h2⟩, h3⟩ := w.fz a h
  exact ⟨⟨u, same_new hp _ _ h1, h2⟩, h3⟩
end
end Pu
set_option Elab.async false
set_option linter.all false
set_option maxRecDepth 100000
set_option maxHeartbeats 4000000
namespace Pu
open PySem L2 Stp NdefX
open PyProof.Rows hiding St
theorem PE.imp {X : Cx} {e : Expr} {t t' : TE} (h : PE X e t) (k : ∀ σ H Q, t' σ H Q → t σ H Q) : PE X e t' := ⟨fun pins s σ H Q I hw => h.run pins s σ H Q I (k σ H Q hw)⟩
theorem PT.imp {X : Cx} {e : Expr} {t t' : TT} (h : PT X e t) (k : ∀ σ H Q, t' σ H Q → t σ H Q) : PT X e t' := ⟨fun pins s σ H Q I hw => h.run pins s σ H Q I (k σ H Q hw)⟩
theorem PW.imp {X : Cx} {e : Expr} {t t' : TT} (h : PW X e t) (k : ∀ σ H Q, t' σ H Q → t σ H Q) : PW X e t' := ⟨fun wh pins s σ H Q I hw => h.run wh pins s σ H Q I (k σ H Q hw)⟩
theorem PA.imp {X : Cx} {e : List Expr} {t t' : TA} (h : PA X e t) (k : ∀ σ H Q, t' σ H Q → t σ H Q) : PA X e t' := ⟨fun pos pins s σ H Q I hw => h.run pos pins s σ H Q I (k σ H Q hw)⟩
theorem PS.imp {X : Cx} {e : Stmt} {t t' : TS} (h : PS X e t) (k : ∀ D σ H, t' D σ H → t D σ H) : PS X e t' := ⟨fun pins s σ H D I hw => h.run pins s σ H D I (k D σ H hw)⟩
theorem PSs.imp {X : Cx} {e : List Stmt} {t t' : TS} (h : PSs X e t) (k : ∀ D σ H, t' D σ H → t D σ H) : PSs X e t' := ⟨fun pins s σ H D I hw => h.run pins s σ H D I (k D σ H hw)⟩
theorem OpR.or {X : Cx} {f : Value → Value → Sem Value} {r r' : R2} (h : OpR X f r) (h' : OpR X f r') : OpR X f (fun x y H Q => r x y H Q ∨ r' x y H Q) := by
  intro pins s σ H x y v u Q I rx ry q
  rcases q with q | q
  · exact h pins s σ H x y v u Q I rx ry q
  · exact h' pins s σ H x y v u Q I rx ry q
/-- an exception of one's own as it flies -/
def RepX (G : GC) (cls : Value) (dx : Option Addr) (e : D) : Prop := ∃ c A, e = .exc c [] ∧ G.cA c = some A ∧ cls = .ref A ∧ dx = none
abbrev RR (α β : Type) := Cf → Hp → β → α → Prop
/-- the run t, asked at a state -/
structure At {α β : Type} (G : GC) (W : WX) (R : RR α β) (σ : St) (env : Env) (us : List Addr) (C : Cf) (n : Nat) (H : Hp) (t : T α) (Q : β → Hp → Prop) : Prop where
  ok : Ok G C n σ env us H
  wp : t.wp n (fun d n' => ∀ C' H' v, Step [] C H C' H' → Wf G C' n' H' → R C' H' v d → Q v H') (fun e n' => ∀ C' H' cls dx, Step [] C H C' H' → Wf G C' n' H' → RepX G cls dx e → W cls dx σ H')
abbrev rV (G : GC) (b : Bool) : RR D V := fun C H v d => Rep G (C.vw b) H v d
abbrev rA (G : GC) (b : Bool) : RR (List D) (List V) := fun C H v d => RepL G (C.vw b) H v d
abbrev rB : RR Bool Bool := fun _ _ v d => v = d
section
variable {α β γ δ : Type} {G : GC} {W : WX} {R : RR α β} {R' : RR γ δ} {σ : St} {env : Env} {us : List Addr} {C : Cf} {n : Nat} {H : Hp}
theorem At.bind {t : T α} {f : α → T γ} {Q : δ → Hp → Prop} (h : At G W R' σ env us C n H (t.bind f) Q) : At G W R σ env us C n H t (fun v H1 => ∃ C1 n1 d, Step [] C H C1 H1 ∧ R C1 H1 v d ∧ At G W R' σ env us C1 n1 H1 (f d) Q) :=
  ⟨h.ok, T.wp_mono (T.wp_bind h.wp) (fun a m _ k C' H' v s wf r => ⟨C', m, a, s, r, h.ok.q s wf, T.wp_mono k (fun d n' _ z C2 H2 v2 s2 w2 r2 => z C2 H2 v2 (s.trans s2 (by simp)) w2 r2) (fun e n' _ z C2 H2 c2 d2 s2 w2 r2 => z C2 H2 c2 d2 (s.trans s2 (by simp)) w2 r2)⟩) (fun e m _ z => z)⟩
theorem At.ret {a : α} {Q : β → Hp → Prop} (h : At G W R σ env us C n H (.ret a) Q) {v : β} (r : R C H v a) : Q v H := h.wp C H v (Step.refl [] C H) h.ok.wf r
theorem At.retS {a : α} {Q : β → Hp → Prop} (h : At G W R σ env us C n H (.ret a) Q) {C' : Cf} {H' : Hp} {v : β} (s : Step [] C H C' H') (w : Wf G C' n H') (r : R C' H' v a) : Q v H' := h.wp C' H' v s w r
theorem At.no {Q : β → Hp → Prop} (h : At G W R σ env us C n H .fail Q) : False := h.wp
theorem At.imp {t : T α} {Q Q' : β → Hp → Prop} (h : At G W R σ env us C n H t Q) (k : ∀ v H', Q v H' → Q' v H') : At G W R σ env us C n H t Q' :=
  ⟨h.ok, T.wp_mono h.wp (fun a m _ z C' H' v s wf r => k v H' (z C' H' v s wf r)) (fun e m _ z => z)⟩
end
section
variable {G : GC} {W : WX} {b : Bool} {σ : St} {env : Env} {us : List Addr} {C : Cf} {n : Nat} {H : Hp} {Q : VK}
theorem At.newL {ds : List D} {vs : List V} (h : At G W (rV G b) σ env us C n H (.ret (.lst ds)) Q) (r : RepL G C H vs ds) {p : Addr} (hp : H p = none) : Q (.ref p) (upd H p (.lst vs)) := by
  have s := step_new (C := C) (o := .lst vs) hp
  exact h.retS s (h.ok.wf.new hp fun _ z => nomatch z) (.lst (.inl (.inl rfl)) upd_same ((r.nx s.nx).nx (Nx.view _ b _)))
theorem At.newT {ds : List D} {vs : List V} {b' : Bool} (h : At G W (rV G b) σ env us C n H (.ret (.tup ds)) Q) (r : RepL G (C.vw b') H vs ds) (hb : b' = true → b = true) {p : Addr} (hp : H p = none) : Q (.ref p) (upd H p (.tup vs)) := by
  have s := step_tup (C := C) (o := .tup vs) hp
  refine h.retS s (h.ok.wf.tup hp) (.tup upd_same ?_)
  have r2 := r.nx (s.vw b')
  cases b' with
  | false => exact (r2.nx (Nx.unview C _)).nx (Nx.view _ b _)
  | true => rw [hb rfl]; exact r2
end
def tQ (G : GC) (W : WX) (b : Bool) (m : Env → T D) : TE := fun σ H Q => ∃ C n env us, At G W (rV G b) σ env us C n H (m env) Q
def tT (G : GC) (W : WX) (m : Env → T Bool) : TT := fun σ H Q => ∃ C n env us, At G W rB σ env us C n H (m env) Q
def tA (G : GC) (W : WX) (b : Bool) (m : Env → T (List D)) : TA := fun σ H Q => ∃ C n env us, At G W (rA G b) σ env us C n H (m env) Q
def grd {α : Type} (c : Prop) [Decidable c] (t : T α) : T α := if c then t else .fail
theorem At.grd {α β : Type} {G : GC} {W : WX} {R : RR α β} {σ : St} {env : Env} {us : List Addr} {C : Cf} {n : Nat} {H : Hp} {c : Prop} [Decidable c] {t : T α} {Q : β → Hp → Prop} (h : At G W R σ env us C n H (grd c t) Q) : c ∧ At G W R σ env us C n H t Q := by
  unfold Pu.grd at h
  by_cases hc : c
  · rw [if_pos hc] at h; exact ⟨hc, h⟩
  · rw [if_neg hc] at h; exact h.no.elim
def qVar (i : Nat) : Env → T D := fun env => match env[i]? with
  | some (some (.fz d)) => .ret d
  | _ => .fail
/-- a look at a name -/
def qLook (i : Nat) : Env → T D := fun env => match env[i]? with
  | some (some o) => .ret o.toD
  | _ => .fail
def qC (d : D) : Env → T D := fun _ => .ret d
def q1 (f : D → T D) (m : Env → T D) : Env → T D := fun env => (m env).bind f
def q2 (f : D → D → T D) (m k : Env → T D) : Env → T D := fun env => (m env).bind fun d => (k env).bind fun e => f d e
def qN (f : List D → T D) (m : Env → T (List D)) : Env → T D := fun env => (m env).bind f
def aNil : Env → T (List D) := fun _ => .ret []
def aCons (m : Env → T D) (k : Env → T (List D)) : Env → T (List D) := fun env => (m env).bind fun d => (k env).bind fun ds => .ret (d :: ds)
def big : Nat := 1000000
section
variable {X : Cx} {G : GC} {W : WX} {b : Bool}
theorem s_var (i : Nat) {x : Str} {pos : Pos} (hN : X.N[i]? = some x := by rfl) (hv : Vis X.env.scope x := by first | exact Or.inl rfl | exact Or.inr (Or.inl rfl) | exact Or.inr (Or.inr rfl)) (hd : (x == ("__debug__" : Str)) = false := by decide)
    (hcd : (x == ("__classdict__" : Str)) = false := by decide) : PE X (.Name x pos) (tQ G W false (qVar i)) := by
  refine PE.imp (pe_var hN hv hd hcd) fun σ H Q h => ?_
  obtain ⟨C, n, env, us, h⟩ := h
  unfold qVar at h
  cases e : env[i]? with
  | none => rw [e] at h; exact h.no.elim
  | some o =>
    cases o with
    | none => rw [e] at h; exact h.no.elim
    | some o =>
      rw [e] at h
      cases o with
      | fz d =>
        obtain ⟨v, us1, h1, h2, h3⟩ := h.ok.env.at e
        cases h2 with
        | fz r => exact ⟨v, h1, h.ret (r.view false)⟩
      | _ => exact h.no.elim
/-- what a name holds, looked at -/
theorem OwnL.rep {G : GC} {C : Cf} {H : Hp} (hu : ∀ a, (∃ o, H a = some o) → a ∉ C.pa) : ∀ {as : List Addr} {ds : List (List D)}, OwnL G C H as ds → RepL G (C.vw true) H (as.map V.ref) (ds.map D.lst)
  | _, _, .nil => .nil
  | _, _, .cons h r l => .cons (.lst (.inr ⟨rfl, hu _ ⟨_, h⟩⟩) h (r.nx (Nx.view C true H))) (OwnL.rep hu l)
theorem OwnL.rep2 {G : GC} {C : Cf} {H : Hp} : ∀ {as : List Addr} {ds : List (List D)}, OwnL G C H as ds → (∀ a ∈ as, a ∉ C.pa) → RepL G (C.vw true) H (as.map V.ref) (ds.map D.lst)
  | _, _, .nil, _ => .nil
  | _, _, .cons h r l, hu => .cons (.lst (.inr ⟨rfl, hu _ (List.mem_cons_self ..)⟩) h (r.nx (Nx.view C true H))) (OwnL.rep2 l fun a m => hu a (List.mem_cons_of_mem _ m))
theorem OwnF.rep {G : GC} {C : Cf} {H : Hp} : ∀ {vs : List (Str × V)} {fs : List (Str × FO)} {us : List Addr}, OwnF G C H vs fs us → (∀ a ∈ us, a ∉ C.pa) → RepF G (C.vw true) H vs (fs.map fun p => (p.1, p.2.toD))
  | _, _, _, .nil, _ => .nil
  | _, _, _, .fz r l, hu => .cons (r.nx (Nx.view C true H)) (OwnF.rep l hu)
  | _, _, _, .ls h r l, hu => .cons (.lst (.inr ⟨rfl, hu _ (List.mem_cons_self ..)⟩) h (r.nx (Nx.view C true H))) (OwnF.rep l fun a m => hu a (List.mem_cons_of_mem _ m))
  | _, _, _, .dk h r l, hu => .cons (.dK (.inr ⟨rfl, hu _ (List.mem_cons_self ..)⟩) h (r.nx (Nx.view C true H))) (OwnF.rep l fun a m => hu a (List.mem_cons_of_mem _ m))
  | _, _, _, .dt h r l, hu => .cons (.dT (.inr ⟨rfl, hu _ (List.mem_cons_self ..)⟩) h (r.nx (Nx.view C true H))) (OwnF.rep l fun a m => hu a (List.mem_cons_of_mem _ m))
theorem OwnR.look {G : GC} {C : Cf} {H : Hp} {v : V} {o : O} {us : List Addr} (r : OwnR G C H v o us) (hu : ∀ a ∈ us, a ∉ C.pa) : Rep G (C.vw true) H v o.toD := by
  have nv := Nx.view C true H
  cases r with
  | fz h => exact h.nx nv
  | ls h l => exact .lst (.inr ⟨rfl, hu _ (List.mem_cons_self ..)⟩) h (l.nx nv)
  | dk h l => exact .dK (.inr ⟨rfl, hu _ (List.mem_cons_self ..)⟩) h (l.nx nv)
  | dt h l => exact .dT (.inr ⟨rfl, hu _ (List.mem_cons_self ..)⟩) h (l.nx nv)
  | dn h z l => exact .dN (.inr ⟨rfl, hu _ (List.mem_cons_self ..)⟩) h z (l.nx nv)
  | ll h l => exact .lst (.inr ⟨rfl, hu _ (List.mem_cons_self ..)⟩) h (l.rep2 fun a m => hu a (List.mem_cons_of_mem _ m))
  | ob h c l => exact .obj (.inr ⟨rfl, hu _ (List.mem_cons_self ..)⟩) h c (l.rep fun a m => hu a (List.mem_cons_of_mem _ m))
  | mo e h c l => exact .obj (.inr ⟨rfl, hu _ (List.mem_cons_self ..)⟩) h c (l.rep fun a m => hu a (List.mem_cons_of_mem _ m))
  | me e h c l => exact .obj (.inr ⟨rfl, hu _ (List.mem_cons_self ..)⟩) h c (l.nx nv)
  | @tl a b k vs ws ds xs h e l hb q =>
    have z := RepL.set (C := C.vw true) (Rep.lst (C := C.vw true) (.inr ⟨rfl, hu _ (List.mem_cons_self ..)⟩) hb (q.nx nv)) k (l.nx nv)
    rw [set_back e] at z
    exact .tup h z
  | @gl a b as k vs ds dss h e l hb q =>
    have z := RepL.set (C := C.vw true) (Rep.lst (C := C.vw true) (.inr ⟨rfl, hu _ (List.mem_cons_of_mem _ (List.mem_cons_self ..))⟩) hb (q.rep2 fun a m => hu a (List.mem_cons_of_mem _ (List.mem_cons_of_mem _ m)))) k (l.nx nv)
    rw [set_back e] at z
    exact .lst (.inr ⟨rfl, hu _ (List.mem_cons_self ..)⟩) h z
theorem s_look (i : Nat) {x : Str} {pos : Pos} (hN : X.N[i]? = some x := by rfl) (hv : Vis X.env.scope x := by first | exact Or.inl rfl | exact Or.inr (Or.inl rfl) | exact Or.inr (Or.inr rfl)) (hd : (x == ("__debug__" : Str)) = false := by decide)
    (hcd : (x == ("__classdict__" : Str)) = false := by decide) : PE X (.Name x pos) (tQ G W true (qLook i)) := by
  refine PE.imp (pe_var hN hv hd hcd) fun σ H Q h => ?_
  obtain ⟨C, n, env, us, h⟩ := h
  unfold qLook at h
  cases e : env[i]? with
  | none => rw [e] at h; exact h.no.elim
  | some o =>
    cases o with
    | none => rw [e] at h; exact h.no.elim
    | some o =>
      rw [e] at h
      obtain ⟨v, us1, h1, h2, h3⟩ := h.ok.env.at e
      exact ⟨v, h1, h.ret (h2.look fun a m => (h.ok.us a (h3 a m)).2.1)⟩
/-- what is frozen may be looked at -/
theorem s_weak {e : Expr} {m : Env → T D} (h : PE X e (tQ G W false m)) : PE X e (tQ G W true m) := by
  refine PE.imp h fun σ H Q k => ?_
  obtain ⟨C, n, env, us, k⟩ := k
  exact ⟨C, n, env, us, k.ok, T.wp_mono k.wp (fun d m _ z C' H' v s w r => z C' H' v s w ((r.nx (Nx.unview C' H')).nx (Nx.view C' true H'))) (fun e m _ z => z)⟩
theorem tQ_c {v : V} {d : D} (hr : ∀ C H, Rep G C H v d) {σ : St} {H : Hp} {Q : VK} (h : tQ G W b (qC d) σ H Q) : tC v σ H Q := by
  obtain ⟨C, n, env, us, h⟩ := h
  exact h.ret (hr _ _)
theorem s_int {i j pos} : PE X (.Constant (.int i) j pos) (tQ G W false (qC (.int i))) := PE.imp pe_int fun σ H Q h => tQ_c (fun _ _ => .int i) h
theorem s_bl {i j pos} : PE X (.Constant (.bool i) j pos) (tQ G W false (qC (.bl i))) := PE.imp pe_bl fun σ H Q h => tQ_c (fun _ _ => .bl i) h
theorem s_non {j pos} : PE X (.Constant .none j pos) (tQ G W false (qC .non)) := PE.imp pe_non fun σ H Q h => tQ_c (fun _ _ => .non) h
theorem s_str {i j pos} : PE X (.Constant (.str i) j pos) (tQ G W false (qC (.str i))) := PE.imp pe_str fun σ H Q h => tQ_c (fun _ _ => .str i) h
theorem s_glob {x : Str} {v : V} {u : Value} {pos : Pos} {d : D} (hg : Gl X x) (hm : X.mg x = some u) (r : RelV v u) (hr : ∀ C H, Rep G C H v d) (hd : (x == ("__debug__" : Str)) = false := by decide) : PE X (.Name x pos) (tQ G W false (qC d)) := PE.imp (pe_glob hg hm r hd) fun σ H Q h => tQ_c hr h
theorem s_ty {x : Str} {T : String} {pos : Pos} (hg : Gl X x) (hm : X.mg x = none) (hv : bootBuiltins x = some (.type T)) (hn : x ≠ "__name__" := by decide) (hd : (x == ("__debug__" : Str)) = false := by decide) : PE X (.Name x pos) (tQ G W false (qC (.ty T))) := PE.imp (pe_bltn (v := .ty T) hg hm hv rfl hn hd) fun σ H Q h => tQ_c (fun _ _ => .ty T) h
theorem a_nil : PA X [] (tA G W b aNil) := PA.imp pa_nil fun σ H Q h => by
  obtain ⟨C, n, env, us, h⟩ := h
  exact h.ret .nil
theorem a_cons {e : Expr} {es : List Expr} {m : Env → T D} {k : Env → T (List D)} (ha : PE X e (tQ G W b m)) (hr : PA X es (tA G W b k)) (hs : starEach (e :: es) X.env = (false, eval e X.env) :: starEach es X.env := by rfl) : PA X (e :: es) (tA G W b (aCons m k)) := by
  refine PA.imp (pa_cons ha hr hs) fun σ H Q h => ?_
  obtain ⟨C, n, env, us, h⟩ := h
  refine ⟨C, n, env, us, (h.bind (R := rV G b)).imp ?_⟩
  rintro v H1 ⟨C1, n1, d, s1, r1, h1⟩
  refine ⟨C1, n1, env, us, (h1.bind (R := rA G b)).imp ?_⟩
  rintro vs H2 ⟨C2, n2, ds, s2, r2, h2⟩
  exact h2.ret (.cons (r1.nx (s2.vw b)) r2)
theorem s_tup {es : List Expr} {m : Env → T (List D)} {x1} {pos : Pos} (h : PA X es (tA G W b m)) : PE X (.Tuple es x1 pos) (tQ G W b (qN (fun ds => grd (ds.length ≤ big) (.ret (.tup ds))) m)) := by
  refine PE.imp (pe_tup h) fun σ H Q h => ?_
  obtain ⟨C, n, env, us, h⟩ := h
  refine ⟨C, n, env, us, (h.bind (R := rA G b)).imp ?_⟩
  rintro vs H1 ⟨C1, n1, ds, s1, r1, h1⟩
  obtain ⟨hl, h1⟩ := h1.grd
  exact ⟨by rw [r1.length]; exact Nat.le_trans hl (by decide), fun p hp => h1.newT r1 id hp⟩
theorem s_lst {es : List Expr} {m : Env → T (List D)} {pos : Pos} (h : PA X es (tA G W false m)) : PE X (.List es pos) (tQ G W false (qN (fun ds => grd (ds.length ≤ big) (.ret (.lst ds))) m)) := by
  refine PE.imp (pe_lst h) fun σ H Q h => ?_
  obtain ⟨C, n, env, us, h⟩ := h
  refine ⟨C, n, env, us, (h.bind (R := rA G false)).imp ?_⟩
  rintro vs H1 ⟨C1, n1, ds, s1, r1, h1⟩
  obtain ⟨hl, h1⟩ := h1.grd
  exact ⟨by rw [r1.length]; exact Nat.le_trans hl (by decide), fun p hp => h1.newL (r1.nx (Nx.unview _ _)) hp⟩
theorem tQ_2 {r : R2} {f : D → D → T D} {ma mb : Env → T D} {b1 b2 : Bool} {σ : St} {H : Hp} {Q : VK} (h : tQ G W b (q2 f ma mb) σ H Q)
    (hf : ∀ env us C n H x y d e Q, Rep G (C.vw b1) H x d → Rep G (C.vw b2) H y e → At G W (rV G b) σ env us C n H (f d e) Q → r x y H Q) : tOp r (tQ G W b1 ma) (tQ G W b2 mb) σ H Q := by
  obtain ⟨C, n, env, us, h⟩ := h
  refine ⟨C, n, env, us, (h.bind (R := rV G b1)).imp ?_⟩
  rintro v H1 ⟨C1, n1, d, s1, r1, h1⟩
  refine ⟨C1, n1, env, us, (h1.bind (R := rV G b2)).imp ?_⟩
  rintro u H2 ⟨C2, n2, e, s2, r2, h2⟩
  exact hf env us C2 n2 H2 v u d e Q (r1.nx (s2.vw b1)) r2 h2
theorem s_bin {op : Operator} {r : R2} {f : D → D → T D} {ma mb : Env → T D} {b1 b2 : Bool} {a c : Expr} {pos : Pos} (ho : OpR X (binaryOp op) r)
    (hf : ∀ σ env us C n H x y d e Q, Rep G (C.vw b1) H x d → Rep G (C.vw b2) H y e → At G W (rV G b) σ env us C n H (f d e) Q → r x y H Q)
    (ha : PE X a (tQ G W b1 ma)) (hb : PE X c (tQ G W b2 mb)) : PE X (.BinOp a op c pos) (tQ G W b (q2 f ma mb)) := PE.imp (pe_op ho ha hb) fun σ H Q h => tQ_2 h (hf σ)
theorem s_cmp {op : CmpOp} {r : R2} {f : D → D → T D} {ma mb : Env → T D} {b1 b2 : Bool} {a c : Expr} {pos : Pos} (ho : OpR X (compareOp op) r)
    (hf : ∀ σ env us C n H x y d e Q, Rep G (C.vw b1) H x d → Rep G (C.vw b2) H y e → At G W (rV G b) σ env us C n H (f d e) Q → r x y H Q)
    (ha : PE X a (tQ G W b1 ma)) (hb : PE X c (tQ G W b2 mb)) (hm : behindInMarks op c = false) : PE X (.Compare a [op] [c] pos) (tQ G W b (q2 f ma mb)) := PE.imp (pe_cmpR ho ha hb hm) fun σ H Q h => tQ_2 h (hf σ)
end
def addD : D → D → T D
  | .int i, .int j => .ret (.int (i + j))
  | .str x, .str y => grd (x.length + y.length ≤ big) (.ret (.str (x ++ y)))
  | .lst xs, .lst ys => grd (xs.length + ys.length ≤ big) (.ret (.lst (xs ++ ys)))
  | .tup xs, .tup ys => grd (xs.length + ys.length ≤ big) (.ret (.tup (xs ++ ys)))
  | .int i, .bl k => .ret (.int (i + b2i k))
  | _, _ => .fail
def subD : D → D → T D
  | .int i, .int j => .ret (.int (i - j))
  | _, _ => .fail
def mulD : D → D → T D
  | .int i, .int j => grd ((-18446744073709551616 < i ∧ i < 18446744073709551616) ∨ (-18446744073709551616 < j ∧ j < 18446744073709551616)) (.ret (.int (i * j)))
  | .lst xs, .int k => grd (0 ≤ k ∧ k ≤ 100000 ∧ xs.length * k.toNat ≤ big) (.ret (.lst (List.replicate k.toNat xs).flatten))
  | .tup xs, .int k => grd (xs ≠ [] ∧ 0 ≤ k ∧ k ≤ 1000 ∧ xs.length ≤ 1000) (.ret (.tup (List.replicate k.toNat xs).flatten))
  | _, _ => .fail
def modD : D → D → T D
  | .int i, .int j => grd (0 < j) (.ret (.int (i % j)))
  | _, _ => .fail
def fdivD : D → D → T D
  | .int i, .int j => grd (0 < j ∧ j < 1073741824) (.ret (.int (i / j)))
  | _, _ => .fail
def powD : D → D → T D
  | .int i, .int j => grd (0 ≤ j ∧ j ≤ 1000 ∧ i.natAbs < 18446744073709551616) (.ret (.int (i ^ j.toNat)))
  | _, _ => .fail
def negD : D → T D
  | .int i => .ret (.int (-i))
  | _ => .fail
def ltD : D → D → T D
  | .int i, .int j => .ret (.bl (decide (i < j)))
  | _, _ => .fail
def leD : D → D → T D
  | .int i, .int j => .ret (.bl (decide (i ≤ j)))
  | _, _ => .fail
def gtD : D → D → T D
  | .int i, .int j => .ret (.bl (decide (j < i)))
  | _, _ => .fail
def geD : D → D → T D
  | .int i, .int j => .ret (.bl (decide (j ≤ i)))
  | _, _ => .fail
def isNon : D → Bool
  | .non => true
  | _ => false
def isnD : D → D → T D
  | d, .non => .ret (.bl (isNon d))
  | _, _ => .fail
def notnD : D → D → T D
  | d, .non => .ret (.bl (!isNon d))
  | _, _ => .fail
section
variable {X : Cx} {G : GC} {W : WX} {b : Bool} {ma mb : Env → T D} {a c : Expr} {pos : Pos}
theorem s_add (hk : X.K = G.K) (ha : PE X a (tQ G W false ma)) (hb : PE X c (tQ G W false mb)) : PE X (.BinOp a .Add c pos) (tQ G W false (q2 addD ma mb)) := by
  have ho := OpR.or (op_add (X := X)) (OpR.or op_add_str (OpR.or op_cat (OpR.or op_catA op_add_ib)))
  rw [hk] at ho
  refine s_bin ho (fun σ env us C n H x y d e Q r1 r2 h => ?_) ha hb
  have r1 := r1.unview
  have r2 := r2.unview
  cases r1 <;> try exact h.no.elim
  case int i =>
    cases r2 <;> try exact h.no.elim
    case int j => exact .inl ⟨i, j, rfl, rfl, h.ret (.int _)⟩
    case bl j => exact .inr (.inr (.inr (.inr ⟨i, j, rfl, rfl, h.ret (.int _)⟩)))
  case str i =>
    cases r2 <;> try exact h.no.elim
    case str j =>
      obtain ⟨hl, h⟩ := h.grd
      exact .inr (.inl ⟨i, j, rfl, rfl, Nat.le_trans hl (by decide), h.ret (.str _)⟩)
  case lst p vs ds f1 h1 l1 =>
    cases r2 <;> try exact h.no.elim
    case lst q us es f2 h2 l2 =>
      obtain ⟨hl, h⟩ := h.grd
      exact .inr (.inr (.inl ⟨p, q, vs, us, rfl, rfl, h1, h2, by rw [l1.length, l2.length]; exact Nat.le_trans hl (by decide), fun p hp => h.newL (l1.append l2) hp⟩))
  case tup p vs ds h1 l1 =>
    cases r2 <;> try exact h.no.elim
    case tup q us es h2 l2 =>
      obtain ⟨hl, h⟩ := h.grd
      refine .inr (.inr (.inr (.inl ⟨p, q, vs, us, rfl, rfl, SqT.of h1, SqT.of h2, by rw [l1.length, l2.length]; exact Nat.le_trans hl (by decide), fun z => ?_, fun _ z => ?_, fun _ _ p hp => h.newT ((l1.append l2).nx (Nx.view _ false _)) id hp⟩)))
      · have e : ds = [] := l1.nil_iff.mp z
        rw [e, List.nil_append] at h
        exact h.ret (.tup h2 (l2.nx (Nx.view _ false _)))
      · have e : es = [] := l2.nil_iff.mp z
        rw [e, List.append_nil] at h
        exact h.ret (.tup h1 (l1.nx (Nx.view _ false _)))
theorem s_sub (ha : PE X a (tQ G W false ma)) (hb : PE X c (tQ G W false mb)) : PE X (.BinOp a .Sub c pos) (tQ G W false (q2 subD ma mb)) := by
  refine s_bin op_sub (fun σ env us C n H x y d e Q r1 r2 h => ?_) ha hb
  cases r1 <;> try exact h.no.elim
  cases r2 <;> try exact h.no.elim
  exact ⟨_, _, rfl, rfl, h.ret (.int _)⟩
theorem RepL.rep {C : Cf} {H : Hp} {vs : List V} {ds : List D} (r : RepL G C H vs ds) : ∀ k : Nat, RepL G C H (List.replicate k vs).flatten (List.replicate k ds).flatten
  | 0 => .nil
  | k + 1 => by
    rw [List.replicate_succ, List.replicate_succ, List.flatten_cons, List.flatten_cons]
    exact r.append (RepL.rep r k)
theorem s_mod (ha : PE X a (tQ G W false ma)) (hb : PE X c (tQ G W false mb)) : PE X (.BinOp a .Mod c pos) (tQ G W false (q2 modD ma mb)) := by
  refine s_bin op_mod (fun σ env us C n H x y d e Q r1 r2 h => ?_) ha hb
  cases r1 <;> try exact h.no.elim
  cases r2 <;> try exact h.no.elim
  case int.int i j =>
    obtain ⟨hl, h⟩ := h.grd
    exact ⟨_, _, rfl, rfl, hl, h.ret (.int _)⟩
theorem s_neg (ha : PE X a (tQ G W false ma)) : PE X (.UnaryOp .USub a pos) (tQ G W false (q1 negD ma)) := by
  refine PE.imp (pe_un un_neg ha) fun σ H Q h => ?_
  obtain ⟨C, n, env, us, h⟩ := h
  refine ⟨C, n, env, us, (h.bind (R := rV G false)).imp ?_⟩
  rintro v H1 ⟨C1, n1, d, s1, r1, h1⟩
  cases r1 <;> try exact h1.no.elim
  exact ⟨_, rfl, h1.ret (.int _)⟩
theorem s_le (ha : PE X a (tQ G W false ma)) (hb : PE X c (tQ G W false mb)) : PE X (.Compare a [.LtE] [c] pos) (tQ G W false (q2 leD ma mb)) := by
  refine s_cmp op_le (fun σ env us C n H x y d e Q r1 r2 h => ?_) ha hb (nomark _)
  cases r1 <;> try exact h.no.elim
  cases r2 <;> try exact h.no.elim
  exact ⟨_, _, rfl, rfl, h.ret (.bl _)⟩
theorem s_ge (ha : PE X a (tQ G W false ma)) (hb : PE X c (tQ G W false mb)) : PE X (.Compare a [.GtE] [c] pos) (tQ G W false (q2 geD ma mb)) := by
  refine s_cmp op_ge (fun σ env us C n H x y d e Q r1 r2 h => ?_) ha hb (nomark _)
  cases r1 <;> try exact h.no.elim
  cases r2 <;> try exact h.no.elim
  exact ⟨_, _, rfl, rfl, h.ret (.bl _)⟩
theorem isNon_of {C : Cf} {H : Hp} {v : V} {d : D} (r : Rep G C H v d) : decide (v = .non) = isNon d := by
  cases r <;> rfl
end
end Pu
set_option Elab.async false
set_option linter.all false
set_option maxRecDepth 100000
set_option maxHeartbeats 4000000
namespace Pu
open PySem L2 Stp NdefX
open PyProof.Rows hiding St
mutual
def D.pd : D → Option PyData
  | .non => some .none
  | .bl b => some (.bool b)
  | .int i => some (.int i)
  | .str x => some (.str x)
  | .tup xs => (D.pdL xs).map .tuple
  | .wt xs => (D.pdL xs).map .tuple
  | .lst xs => (D.pdL xs).map .list
  | _ => none
def D.pdL : List D → Option (List PyData)
  | [] => some []
  | x :: xs => match D.pd x, D.pdL xs with
    | some a, some b => some (a :: b)
    | _, _ => none
end
section
variable {G : GC} {C : Cf} {H : Hp}
mutual
theorem Rep.dp : ∀ {v : V} {d : D} {x : PyData}, Rep G C H v d → d.pd = some x → Dp G.K H v x
  | _, _, _, .non, e => by cases e; exact .non
  | _, _, _, .bl b, e => by cases e; exact .bl b
  | _, _, _, .int b, e => by cases e; exact .int b
  | _, _, _, .str b, e => by cases e; exact .str b
  | _, .tup ds, x, .tup h l, e => by
    have e : (D.pdL ds).map PyData.tuple = some x := e
    cases q : D.pdL ds with
    | none => rw [q] at e; cases e
    | some ys => rw [q] at e; cases e; exact .tup (SqT.of h) (RepL.dp l q)
  | _, .wt ds, x, .wt h l, e => by
    have e : (D.pdL ds).map PyData.tuple = some x := e
    cases q : D.pdL ds with
    | none => rw [q] at e; cases e
    | some ys => rw [q] at e; cases e; exact .tup (sqT_wt h) (RepL.dp l q)
  | _, .lst ds, x, .lst _ h l, e => by
    have e : (D.pdL ds).map PyData.list = some x := e
    cases q : D.pdL ds with
    | none => rw [q] at e; cases e
    | some ys => rw [q] at e; cases e; exact .lst (SqL.of h) (RepL.dp l q)
  | _, _, _, .dK _ _ _, e => by cases e
  | _, _, _, .dT _ _ _, e => by cases e
  | _, _, _, .obj _ _ _ _, e => by cases e
  | _, _, _, .exc _ _, e => by cases e
  | _, _, _, .fn _ _, e => by cases e
  | _, _, _, .ty _, e => by cases e
  | _, _, _, .cls _, e => by cases e
  | _, _, _, .pen _, e => by cases e
  | _, _, _, .scr _, e => by cases e
  | _, _, _, .bw _ _, e => by cases e
  | _, _, _, .rf _, e => by cases e
  | _, _, _, .dN _ _ _ _, e => by cases e
theorem RepL.dp : ∀ {vs : List V} {ds : List D} {xs : List PyData}, RepL G C H vs ds → D.pdL ds = some xs → DpAll G.K H vs xs
  | _, _, _, .nil, e => by cases e; exact .nil
  | _, d :: ds, xs, .cons r l, e => by
    have e : (match D.pd d, D.pdL ds with | some a, some b => some (a :: b) | _, _ => none) = some xs := e
    cases q1 : D.pd d with
    | none => rw [q1] at e; cases e
    | some a =>
      cases q2 : D.pdL ds with
      | none => rw [q1, q2] at e; cases e
      | some b =>
        rw [q1, q2] at e
        cases e
        exact .cons (Rep.dp r q1) (RepL.dp l q2)
end
end
/-- two strings -/
def strQq : D → D → Option Bool
  | .str x, .str y => some (decide (x = y))
  | _, _ => none
theorem strq_some {d e : D} {b : Bool} (h : strQq d e = some b) : ∃ x y, d = .str x ∧ e = .str y ∧ b = decide (x = y) := by
  unfold strQq at h
  split at h
  · rename_i x y
    cases h
    exact ⟨x, y, rfl, rfl, rfl⟩
  · cases h
def eqP (d e : D) : T D := match d.pd, e.pd with
  | some x, some y => grd (SeqAt.shaped x = true ∧ SeqAt.shaped y = true) (.ret (.bl (PyData.eqv x y)))
  | _, _ => .fail
def neP (d e : D) : T D := match d.pd, e.pd with
  | some x, some y => grd (SeqAt.shaped x = true ∧ SeqAt.shaped y = true) (.ret (.bl (!PyData.eqv x y)))
  | _, _ => .fail
def eqD (d e : D) : T D := match strQq d e with
  | some b => .ret (.bl b)
  | none => eqP d e
def neD (d e : D) : T D := match strQq d e with
  | some b => .ret (.bl (!b))
  | none => neP d e
section
variable {X : Cx} {G : GC} {W : WX} {b b1 b2 : Bool} {ma mb : Env → T D} {a c : Expr} {pos : Pos}
end
end Pu
set_option Elab.async false
set_option linter.all false
set_option maxRecDepth 100000
set_option maxHeartbeats 4000000
namespace Pu
open PySem PySem.Spec L2 Stp NdefX
open PyProof.Rows hiding St
open AutoSeq1 (wpAny_loadPart')
theorem tuple_mul1 (l : Addr) (items : Array Value) (n : Nat) (dd : Option Addr) (sl : Array (Option Value)) (u : Tok) :
    Meets (Builtin.«tuple.__mul__» ⟨[.ref l, .int 1 u], []⟩) (fun _ R s => s.heap.get? l = some { cls := .type "tuple", dict := dd, data := .seq items n, slots := sl } ∧ R (.ok (.ret (Value.ref l))) s) :=
  .of_wp fun prog w A R s h => by
    obtain ⟨hp, g, d, tk, os⟩ := s
    obtain ⟨hl, h⟩ := h
    have f1 := AutoSeq1.idx_int
    have c1 : (items.isEmpty || (1 : Int) == 1) = true := by rw [Bool.or_comm]; rfl
    wp_walk using wpAny_loadPart' hl
    repeat (first
      | (refine wpAny_ite_true (decide_eq_true c1) ?_; wp_walk using wpAny_loadPart' hl))
    exact ⟨_, rfl, h⟩
def rRep1 (K : PySem.W.Frag) : R2 := fun x y H Q => ∃ l xs, x = .ref l ∧ y = .int 1 ∧ SqT K H l xs ∧ Q (.ref l) H
theorem op_rep1 {X : Cx} : OpR X (binaryOp .Mult) (rRep1 X.K) := by
  intro pins s σ H x y v u Q I rx ry h
  obtain ⟨l, xs, rfl, rfl, hT, q⟩ := h
  cases rx
  obtain ⟨t, rfl⟩ := ry
  obtain ⟨its, r, ⟨⟨cls, dd, data, sl⟩, ho, hc, n, hd⟩, hs⟩ := I.tuple hT
  simp only at hc hd
  subst hc hd
  refine wpAny_binaryOp_repeat_ref (T := "tuple") (U := "int") (by decide) ⟨_, ho, rfl⟩ (fun s' => typeIs_int s' 1 t) noFill_tuple_mul F.fills_int_mul F.slot_int_rmul repeat_tuple F.slot_int_index.lookup
    (call_meets F.slot_int_rmul (typeIs_int s 1 t) F.entry_int_rmul (F.args_int_rmul_2 _ _) (int_rmul_tuple 1 t l its.toArray n dd sl)
      ⟨ho, rfl, ⟨_, ho, rfl⟩, call_meets F.slot_tuple_mul ⟨_, ho, rfl⟩ F.entry_tuple_mul (F.args_tuple_mul_2 _ _) (tuple_mul1 l its.toArray n dd sl t) ⟨ho, ?_⟩⟩)
  exact ⟨.ref l, H, I, rfl, q⟩
theorem tuple_mul0 (l : Addr) (items : Array Value) (n : Nat) (dd : Option Addr) (sl : Array (Option Value)) (u : Tok) (c1 : (items.isEmpty || (0 : Int) == 1) = false) :
    Meets (Builtin.«tuple.__mul__» ⟨[.ref l, .int 0 u], []⟩) (fun _ R s => s.heap.get? l = some { cls := .type "tuple", dict := dd, data := .seq items n, slots := sl } ∧ R (.ok (.ret (Value.ref s.heap.objs.size))) { s with heap := s.heap.push { cls := Value.type "tuple", data := Data.seq #[] }, toks := s.toks }) :=
  .of_wp fun prog w A R s h => by
    obtain ⟨hp, g, d, tk, os⟩ := s
    obtain ⟨hl, h⟩ := h
    have f1 := AutoSeq1.idx_int
    have c2 : (decide ((0 : Int) ≤ 0) || items.isEmpty) = true := rfl
    wp_walk using wpAny_loadPart' hl
    repeat (first
      | (refine wpAny_ite_false (decide_eq_false (by rw [c1]; exact Bool.false_ne_true)) ?_; wp_walk using wpAny_loadPart' hl)
      | (refine wpAny_ite_true (decide_eq_true c2) ?_; wp_walk using wpAny_loadPart' hl))
    exact ⟨_, rfl, h⟩
def rRep0 (K : PySem.W.Frag) : R2 := fun x y H Q => ∃ l xs, x = .ref l ∧ y = .int 0 ∧ SqT K H l xs ∧ xs ≠ [] ∧ ∀ p, H p = none → Q (.ref p) (upd H p (.tup []))
theorem op_rep0 {X : Cx} : OpR X (binaryOp .Mult) (rRep0 X.K) := by
  intro pins s σ H x y v u Q I rx ry h
  obtain ⟨l, xs, rfl, rfl, hT, hne, q⟩ := h
  cases rx
  obtain ⟨t, rfl⟩ := ry
  obtain ⟨its, r, ⟨⟨cls, dd, data, sl⟩, ho, hc, n, hd⟩, hs⟩ := I.tuple hT
  simp only at hc hd
  subst hc hd
  have hi : its.toArray.isEmpty = false := by
    cases its with
    | nil =>
      have e := r.length
      exact absurd (List.eq_nil_of_length_eq_zero e) hne
    | cons a b => rfl
  have c1 : (its.toArray.isEmpty || (0 : Int) == 1) = false := by rw [hi]; rfl
  refine wpAny_binaryOp_repeat_ref (T := "tuple") (U := "int") (by decide) ⟨_, ho, rfl⟩ (fun s' => typeIs_int s' 0 t) noFill_tuple_mul F.fills_int_mul F.slot_int_rmul repeat_tuple F.slot_int_index.lookup
    (call_meets F.slot_int_rmul (typeIs_int s 0 t) F.entry_int_rmul (F.args_int_rmul_2 _ _) (int_rmul_tuple 0 t l its.toArray n dd sl)
      ⟨ho, rfl, ⟨_, ho, rfl⟩, call_meets F.slot_tuple_mul ⟨_, ho, rfl⟩ F.entry_tuple_mul (F.args_tuple_mul_2 _ _) (tuple_mul0 l its.toArray n dd sl t c1) ⟨ho, ?_⟩⟩)
  refine ⟨.ref s.heap.objs.size, _, I.laid (t' := s.toks) (o := .tup []) (fun b ob q => Heap.get?_push_of_some _ q) (Nat.le_refl _) ?_, rfl, q _ (I.hok.fresh (Nat.le_refl _))⟩
  exact ⟨Nat.zero_le _, [], .nil, ⟨_, Heap.get?_push_size _ rfl, rfl, 0, rfl⟩⟩
section
variable {X : Cx} {G : GC} {W : WX} {ma mb : Env → T D} {a c : Expr} {pos : Pos}
theorem s_mul (hk : X.K = G.K) (ha : PE X a (tQ G W false ma)) (hb : PE X c (tQ G W false mb)) : PE X (.BinOp a .Mult c pos) (tQ G W false (q2 mulD ma mb)) := by
  have ho := OpR.or (op_mul (X := X)) (OpR.or op_rep (OpR.or op_repT (OpR.or op_rep1 op_rep0)))
  rw [hk] at ho
  refine s_bin ho (fun σ env us C n H x y d e Q r1 r2 h => ?_) ha hb
  have r1 := r1.unview
  have r2 := r2.unview
  cases r1 <;> try exact h.no.elim
  case int i =>
    cases r2 <;> try exact h.no.elim
    case int j =>
      obtain ⟨hl, h⟩ := h.grd
      exact .inl ⟨i, j, rfl, rfl, hl, h.ret (.int _)⟩
  case lst p vs ds f1 h1 l1 =>
    cases r2 <;> try exact h.no.elim
    case int k =>
      obtain ⟨hl, h⟩ := h.grd
      exact .inr (.inl ⟨p, k, vs, rfl, rfl, h1, by omega, by omega, by rw [l1.length]; exact Nat.le_trans hl.2.2 (by decide), fun p hp => h.newL (l1.rep _) hp⟩)
  case tup p vs ds h1 l1 =>
    cases r2 <;> try exact h.no.elim
    case int k =>
      obtain ⟨hl, h⟩ := h.grd
      by_cases hk1 : k = 1
      · subst hk1
        have e : (List.replicate (1 : Int).toNat ds).flatten = ds := by simp
        rw [e] at h
        exact .inr (.inr (.inr (.inl ⟨p, vs, rfl, rfl, SqT.of h1, h.ret (.tup h1 (l1.nx (Nx.view _ false _)))⟩)))
      by_cases hk0 : k = 0
      · subst hk0
        have e : (List.replicate (0 : Int).toNat ds).flatten = [] := by simp
        rw [e] at h
        exact .inr (.inr (.inr (.inr ⟨p, vs, rfl, rfl, SqT.of h1, fun z => hl.1 (l1.nil_iff.mp z), fun p hp => h.newT .nil id hp⟩)))
      · refine .inr (.inr (.inl ⟨p, k, vs, rfl, rfl, SqT.of h1, fun z => hl.1 (l1.nil_iff.mp z), by omega, hl.2.2.1, by rw [l1.length]; exact hl.2.2.2, fun p hp => h.newT ((l1.rep _).nx (Nx.view _ false _)) id hp⟩))
end
end Pu
set_option Elab.async false
set_option linter.all false
set_option maxRecDepth 100000
set_option maxHeartbeats 4000000
namespace Pu
open PySem L2 Stp NdefX
open PyProof.Rows hiding St
section
variable {X : Cx} {G : GC} {W : WX} {b b1 b2 : Bool} {ma mb mc : Env → T D} {a c e : Expr} {pos : Pos}
end
def truB : D → T Bool
  | .bl k => .ret k
  | _ => .fail
def truD : D → T Bool
  | .non => .ret false
  | .bl k => .ret k
  | .int i => .ret (i != 0)
  | .str y => grd (y.length ≤ big) (.ret ((y.length : Int) != 0))
  | .lst xs => .ret (!xs.isEmpty)
  | .tup xs => .ret (!xs.isEmpty)
  | .wt xs => .ret (!xs.isEmpty)
  | .dK xs => .ret (!xs.isEmpty)
  | _ => .fail
def tb1 (m : Env → T D) (f : D → T Bool) : Env → T Bool := fun env => (m env).bind f
def tbAnd (m k : Env → T Bool) : Env → T Bool := fun env => (m env).bind fun x => if x = true then k env else .ret false
def tbOr (m k : Env → T Bool) : Env → T Bool := fun env => (m env).bind fun x => if x = true then .ret true else k env
def tbNot (m : Env → T Bool) : Env → T Bool := fun env => (m env).bind fun x => .ret (!x)
def qIf (t : Env → T Bool) (m k : Env → T D) : Env → T D := fun env => (t env).bind fun x => if x = true then m env else k env
def qAnd (m k : Env → T D) : Env → T D := fun env => (m env).bind fun d => match d with
  | .bl true => k env
  | .bl false => .ret (.bl false)
  | _ => .fail
def qOr (m k : Env → T D) : Env → T D := fun env => (m env).bind fun d => match d with
  | .bl true => .ret (.bl true)
  | .bl false => k env
  | _ => .fail
def notD : D → T D
  | .bl k => .ret (.bl (!k))
  | _ => .fail
theorem RepL.isEmpty {G : GC} {C : Cf} {H : Hp} {vs : List V} {ds : List D} (r : RepL G C H vs ds) : vs.isEmpty = ds.isEmpty := by cases r <;> rfl
theorem RepK.isEmpty {G : GC} {C : Cf} {H : Hp} {vs : List (Key × V)} {ds : List (Key × D)} (r : RepK G C H vs ds) : vs.isEmpty = ds.isEmpty := by cases r <;> rfl
section
variable {X : Cx} {G : GC} {W : WX} {b b1 b2 : Bool} {ma mb mc : Env → T D} {ta tc : Env → T Bool} {a c e : Expr} {rest : List Expr} {pos : Pos}
theorem t_val (hk : X.K = G.K) (ha : PE X a (tQ G W b ma)) (he : ∀ whole, isTrue a X.env whole = (do let v ← whole; standAt a.pos; holding [v] (truthy v)) := by intro _; rfl) : PT X a (tT G W (tb1 ma truD)) := by
  refine PT.imp (pt_truth ha he) fun σ H Q h => ?_
  obtain ⟨C, n, env, us, h⟩ := h
  refine ⟨C, n, env, us, (h.bind (R := rV G b)).imp ?_⟩
  rintro v H1 ⟨C1, n1, d, s1, r1, h1⟩
  rw [hk]
  cases r1 <;> try exact h1.no.elim
  case non => exact ⟨false, rfl, h1.ret rfl⟩
  case bl k => exact ⟨k, rfl, h1.ret rfl⟩
  case int i => exact ⟨_, rfl, h1.ret rfl⟩
  case str y =>
    obtain ⟨hl, h1⟩ := h1.grd
    exact ⟨_, ⟨Nat.le_trans hl (by decide), rfl⟩, h1.ret rfl⟩
  case lst p vs ds f l r => exact ⟨_, .inl ⟨vs, SqL.of l, rfl⟩, h1.ret (by rw [r.isEmpty])⟩
  case tup p vs ds l r => exact ⟨_, .inr (.inl ⟨vs, SqT.of l, rfl⟩), h1.ret (by rw [r.isEmpty])⟩
  case wt p vs ds l r => exact ⟨_, .inr (.inl ⟨vs, sqT_wt l, rfl⟩), h1.ret (by rw [r.isEmpty])⟩
  case dK p vs ds f l r => exact ⟨_, .inr (.inr ⟨vs, l, rfl⟩), h1.ret (by rw [r.isEmpty])⟩
/-- a test that is True or False -/
theorem tT_B {m : Env → T D} {σ : St} {H : Hp} {Q : Bool → Hp → Prop} (h : tT G W (tb1 m truB) σ H Q) : tQ G W b m σ H (fun x H' => ∃ k, x = .bl k ∧ Q k H') := by
  obtain ⟨C, n, env, us, h⟩ := h
  refine ⟨C, n, env, us, (h.bind (R := rV G b)).imp ?_⟩
  rintro v H1 ⟨C1, n1, d, s1, r1, h1⟩
  cases r1 <;> try exact h1.no.elim
  exact ⟨_, rfl, h1.ret rfl⟩
theorem t_cmp {op : CmpOp} {r : R2} {f : D → D → T D} (ho : OpR X (compareOp op) r)
    (hf : ∀ σ env us C n H x y d e Q, Rep G (C.vw b1) H x d → Rep G (C.vw b2) H y e → At G W (rV G false) σ env us C n H (f d e) Q → r x y H Q)
    (ha : PE X a (tQ G W b1 ma)) (hb : PE X c (tQ G W b2 mb)) (hm : behindInMarks op c = false) : PT X (.Compare a [op] [c] pos) (tT G W (tb1 (q2 f ma mb) truB)) := by
  refine PT.imp (pt_cmpR ho ha hb hm) fun σ H Q h => tQ_2 (tT_B (b := false) h) (hf σ)
/-- a value that is True or False, as a test (a comparison as PE) -/
theorem t_and1 (ha : PT X a (tT G W ta)) : PW X (.BoolOp .And [a] pos) (tT G W ta) := pw_and1 ha
theorem t_or1 (ha : PT X a (tT G W ta)) : PW X (.BoolOp .Or [a] pos) (tT G W ta) := pw_or1 ha
theorem t_and (ha : PT X a (tT G W ta)) (hb : PW X (.BoolOp .And (c :: rest) pos) (tT G W tc)) : PW X (.BoolOp .And (a :: c :: rest) pos) (tT G W (tbAnd ta tc)) := by
  refine PW.imp (pw_and ha hb) fun σ H Q h => ?_
  obtain ⟨C, n, env, us, h⟩ := h
  refine ⟨C, n, env, us, (h.bind (R := rB)).imp ?_⟩
  rintro v H1 ⟨C1, n1, d, s1, r1, h1⟩
  have r1 : v = d := r1
  subst r1
  cases v with
  | true => exact iteT ⟨C1, n1, env, us, h1⟩
  | false => exact iteF (h1.ret rfl)
theorem t_or (ha : PT X a (tT G W ta)) (hb : PW X (.BoolOp .Or (c :: rest) pos) (tT G W tc)) : PW X (.BoolOp .Or (a :: c :: rest) pos) (tT G W (tbOr ta tc)) := by
  refine PW.imp (pw_or ha hb) fun σ H Q h => ?_
  obtain ⟨C, n, env, us, h⟩ := h
  refine ⟨C, n, env, us, (h.bind (R := rB)).imp ?_⟩
  rintro v H1 ⟨C1, n1, d, s1, r1, h1⟩
  have r1 : v = d := r1
  subst r1
  cases v with
  | true => exact iteT (h1.ret rfl)
  | false => exact iteF ⟨C1, n1, env, us, h1⟩
theorem t_not (ha : PT X a (tT G W ta)) : PT X (.UnaryOp .Not a pos) (tT G W (tbNot ta)) := by
  refine PT.imp (pt_not ha) fun σ H Q h => ?_
  obtain ⟨C, n, env, us, h⟩ := h
  refine ⟨C, n, env, us, (h.bind (R := rB)).imp ?_⟩
  rintro v H1 ⟨C1, n1, d, s1, r1, h1⟩
  have r1 : v = d := r1
  subst r1
  exact h1.ret rfl
theorem s_ifExp (hc : PT X e (tT G W ta)) (ha : PE X a (tQ G W b ma)) (hb : PE X c (tQ G W b mb)) : PE X (.IfExp e a c pos) (tQ G W b (qIf ta ma mb)) := by
  refine PE.imp (pe_ifExp hc ha hb) fun σ H Q h => ?_
  obtain ⟨C, n, env, us, h⟩ := h
  refine ⟨C, n, env, us, (h.bind (R := rB)).imp ?_⟩
  rintro v H1 ⟨C1, n1, d, s1, r1, h1⟩
  have r1 : v = d := r1
  subst r1
  cases v with
  | true => exact iteT ⟨C1, n1, env, us, h1⟩
  | false => exact iteF ⟨C1, n1, env, us, h1⟩
theorem s_one {op} (ha : PE X a (tQ G W b ma)) : PE X (.BoolOp op [a] pos) (tQ G W b ma) := pe_one ha
theorem s_and (ha : PE X a (tQ G W false ma)) (hb : PE X (.BoolOp .And (c :: rest) pos) (tQ G W false mb)) : PE X (.BoolOp .And (a :: c :: rest) pos) (tQ G W false (qAnd ma mb)) := by
  refine PE.imp (pe_and ha hb) fun σ H Q h => ?_
  obtain ⟨C, n, env, us, h⟩ := h
  refine ⟨C, n, env, us, (h.bind (R := rV G false)).imp ?_⟩
  rintro v H1 ⟨C1, n1, d, s1, r1, h1⟩
  cases r1 <;> try exact h1.no.elim
  case bl k =>
    refine ⟨k, rfl, ?_⟩
    cases k with
    | true => exact iteT ⟨C1, n1, env, us, h1⟩
    | false => exact iteF (h1.ret (.bl _))
theorem s_not (ha : PE X a (tQ G W false ma)) : PE X (.UnaryOp .Not a pos) (tQ G W false (q1 notD ma)) := by
  refine PE.imp (pe_not ha) fun σ H Q h => ?_
  obtain ⟨C, n, env, us, h⟩ := h
  refine ⟨C, n, env, us, (h.bind (R := rV G false)).imp ?_⟩
  rintro v H1 ⟨C1, n1, d, s1, r1, h1⟩
  cases r1 <;> try exact h1.no.elim
  exact ⟨_, rfl, h1.ret (.bl _)⟩
/-- a < b < c, ints -/
def qChain (f g : Int → Int → Bool) (ma mb mc : Env → T D) : Env → T D := fun env => (ma env).bind fun x => (mb env).bind fun y => match x, y with
  | .int i, .int j => if f i j = true then (mc env).bind fun z => (match z with
    | .int k => .ret (.bl (g j k))
    | _ => .fail) else .ret (.bl false)
  | _, _ => .fail
theorem tQ_chain {f g : Int → Int → Bool} {σ : St} {H : Hp} {Q : VK} (h : tQ G W false (qChain f g ma mb mc) σ H Q) : tChain (rI0 fun i j => .bl (f i j)) (rI0 fun i j => .bl (g i j)) (tQ G W false ma) (tQ G W false mb) (tQ G W false mc) σ H Q := by
  obtain ⟨C, n, env, us, h⟩ := h
  refine ⟨C, n, env, us, (h.bind (R := rV G false)).imp ?_⟩
  rintro v H1 ⟨C1, n1, d, s1, r1, h1⟩
  refine ⟨C1, n1, env, us, (h1.bind (R := rV G false)).imp ?_⟩
  rintro v2 H2 ⟨C2, n2, d2, s2, r2, h2⟩
  have r1 := r1.nx (s2.vw false)
  cases r1 <;> try exact h2.no.elim
  cases r2 <;> try exact h2.no.elim
  case int.int i j =>
    refine ⟨i, j, rfl, rfl, _, rfl, ?_⟩
    have h2 : At G W (rV G false) σ env us C2 n2 H2 (if f i j = true then (mc env).bind fun z => (match z with | .int k => .ret (.bl (g j k)) | _ => .fail) else .ret (.bl false)) Q := h2
    by_cases hf : f i j = true
    · rw [if_pos hf] at h2 ⊢
      refine ⟨C2, n2, env, us, (h2.bind (R := rV G false)).imp ?_⟩
      rintro v3 H3 ⟨C3, n3, d3, s3, r3, h3⟩
      cases r3 <;> try exact h3.no.elim
      exact ⟨_, _, rfl, rfl, h3.ret (.bl _)⟩
    · rw [if_neg hf] at h2 ⊢
      exact h2.ret (.bl _)
theorem s_chain {op op' : CmpOp} {f g : Int → Int → Bool} (ho : OpR X (compareOp op) (rI0 fun i j => .bl (f i j))) (ho' : OpR X (compareOp op') (rI0 fun i j => .bl (g i j))) (ha : PE X a (tQ G W false ma)) (hb : PE X c (tQ G W false mb)) (hc : PE X e (tQ G W false mc))
    (hm : lastMarks [op, op'] [c, e] = false := by with_unfolding_all rfl) : PE X (.Compare a [op, op'] [c, e] pos) (tQ G W false (qChain f g ma mb mc)) := PE.imp (pe_chain ho ho' ha hb hc hm) fun σ H Q h => tQ_chain h
theorem t_chain {op op' : CmpOp} {f g : Int → Int → Bool} (ho : OpR X (compareOp op) (rI0 fun i j => .bl (f i j))) (ho' : OpR X (compareOp op') (rI0 fun i j => .bl (g i j))) (ha : PE X a (tQ G W false ma)) (hb : PE X c (tQ G W false mb)) (hc : PE X e (tQ G W false mc))
    (hm : lastMarks [op, op'] [c, e] = false := by with_unfolding_all rfl) : PT X (.Compare a [op, op'] [c, e] pos) (tT G W (tb1 (qChain f g ma mb mc) truB)) := PT.imp (pt_chain ho ho' ha hb hc hm) fun σ H Q h => tQ_chain (tT_B (b := false) h)
theorem t_lt (ha : PE X a (tQ G W false ma)) (hb : PE X c (tQ G W false mb)) : PT X (.Compare a [.Lt] [c] pos) (tT G W (tb1 (q2 ltD ma mb) truB)) := by
  refine t_cmp op_lt (fun σ env us C n H x y d e Q r1 r2 h => ?_) ha hb (nomark _)
  cases r1 <;> try exact h.no.elim
  cases r2 <;> try exact h.no.elim
  exact ⟨_, _, rfl, rfl, h.ret (.bl _)⟩
theorem t_le (ha : PE X a (tQ G W false ma)) (hb : PE X c (tQ G W false mb)) : PT X (.Compare a [.LtE] [c] pos) (tT G W (tb1 (q2 leD ma mb) truB)) := by
  refine t_cmp op_le (fun σ env us C n H x y d e Q r1 r2 h => ?_) ha hb (nomark _)
  cases r1 <;> try exact h.no.elim
  cases r2 <;> try exact h.no.elim
  exact ⟨_, _, rfl, rfl, h.ret (.bl _)⟩
theorem t_gt (ha : PE X a (tQ G W false ma)) (hb : PE X c (tQ G W false mb)) : PT X (.Compare a [.Gt] [c] pos) (tT G W (tb1 (q2 gtD ma mb) truB)) := by
  refine t_cmp op_gt (fun σ env us C n H x y d e Q r1 r2 h => ?_) ha hb (nomark _)
  cases r1 <;> try exact h.no.elim
  cases r2 <;> try exact h.no.elim
  exact ⟨_, _, rfl, rfl, h.ret (.bl _)⟩
theorem t_ge (ha : PE X a (tQ G W false ma)) (hb : PE X c (tQ G W false mb)) : PT X (.Compare a [.GtE] [c] pos) (tT G W (tb1 (q2 geD ma mb) truB)) := by
  refine t_cmp op_ge (fun σ env us C n H x y d e Q r1 r2 h => ?_) ha hb (nomark _)
  cases r1 <;> try exact h.no.elim
  cases r2 <;> try exact h.no.elim
  exact ⟨_, _, rfl, rfl, h.ret (.bl _)⟩
theorem t_isN (ha : PE X a (tQ G W b ma)) (hb : PE X c (tQ G W b mb)) : PT X (.Compare a [.Is] [c] pos) (tT G W (tb1 (q2 isnD ma mb) truB)) := by
  refine t_cmp op_isN (fun σ env us C n H x y d e Q r1 r2 h => ?_) ha hb (nomark _)
  have q := isNon_of r1
  cases r2 <;> try (cases d <;> exact h.no.elim)
  rw [q]
  exact ⟨rfl, h.ret (.bl _)⟩
theorem t_notN (ha : PE X a (tQ G W b ma)) (hb : PE X c (tQ G W b mb)) : PT X (.Compare a [.IsNot] [c] pos) (tT G W (tb1 (q2 notnD ma mb) truB)) := by
  refine t_cmp op_notN (fun σ env us C n H x y d e Q r1 r2 h => ?_) ha hb (nomark _)
  have q := isNon_of r1
  cases r2 <;> try (cases d <;> exact h.no.elim)
  rw [q]
  exact ⟨rfl, h.ret (.bl _)⟩
def rEq2 (K : PySem.W.Frag) : R2 := fun x y H Q => rEq x y H Q ∨ rEqD K x y H Q
def rNe2 (K : PySem.W.Frag) : R2 := fun x y H Q => rNe x y H Q ∨ rNeD K x y H Q
theorem op_eq2 (hu : X.A.units + 64 < cLine) : OpR X (compareOp .Eq) (rEq2 X.K) := OpR.or op_eq (op_eqD hu)
theorem op_ne2 (hu : X.A.units + 64 < cLine) : OpR X (compareOp .NotEq) (rNe2 X.K) := OpR.or op_ne (op_neD hu)
theorem dec_strV {x y : Str} : decide (V.str x = V.str y) = decide (x = y) := by
  by_cases h : x = y
  · rw [h]; simp
  · rw [decide_eq_false h, decide_eq_false (fun z => h (by cases z; rfl))]
theorem eq_hf {K : PySem.W.Frag} (hk : K = G.K) {σ : St} {env : Env} {us : List Addr} {C : Cf} {n : Nat} {H : Hp} {x y : V} {d e : D} {Q : VK} (r1 : Rep G (C.vw b1) H x d) (r2 : Rep G (C.vw b2) H y e) (h : At G W (rV G false) σ env us C n H (eqD d e) Q) : rEq2 K x y H Q := by
  subst hk
  unfold eqD at h
  cases q0 : strQq d e with
  | some b =>
    obtain ⟨a, c, rfl, rfl, rfl⟩ := strq_some q0
    rw [q0] at h
    cases r1
    cases r2
    refine .inl ⟨rfl, ?_⟩
    rw [dec_strV]
    exact h.ret (.bl _)
  | none =>
    rw [q0] at h
    replace h : At G W (rV G false) σ env us C n H (eqP d e) Q := h
    unfold eqP at h
    cases q1 : d.pd with
    | none => rw [q1] at h; exact h.no.elim
    | some x =>
      cases q2 : e.pd with
      | none => rw [q1, q2] at h; exact h.no.elim
      | some y =>
        rw [q1, q2] at h
        obtain ⟨hl, h⟩ := h.grd
        exact .inr ⟨x, y, r1.dp q1, r2.dp q2, hl.1, hl.2, h.ret (.bl _)⟩
theorem ne_hf {K : PySem.W.Frag} (hk : K = G.K) {σ : St} {env : Env} {us : List Addr} {C : Cf} {n : Nat} {H : Hp} {x y : V} {d e : D} {Q : VK} (r1 : Rep G (C.vw b1) H x d) (r2 : Rep G (C.vw b2) H y e) (h : At G W (rV G false) σ env us C n H (neD d e) Q) : rNe2 K x y H Q := by
  subst hk
  unfold neD at h
  cases q0 : strQq d e with
  | some b =>
    obtain ⟨a, c, rfl, rfl, rfl⟩ := strq_some q0
    rw [q0] at h
    cases r1
    cases r2
    refine .inl ⟨rfl, ?_⟩
    rw [dec_strV]
    exact h.ret (.bl _)
  | none =>
    rw [q0] at h
    replace h : At G W (rV G false) σ env us C n H (neP d e) Q := h
    unfold neP at h
    cases q1 : d.pd with
    | none => rw [q1] at h; exact h.no.elim
    | some x =>
      cases q2 : e.pd with
      | none => rw [q1, q2] at h; exact h.no.elim
      | some y =>
        rw [q1, q2] at h
        obtain ⟨hl, h⟩ := h.grd
        exact .inr ⟨x, y, r1.dp q1, r2.dp q2, hl.1, hl.2, h.ret (.bl _)⟩
theorem s_eq (hk : X.K = G.K) (hu : X.A.units + 64 < cLine) (ha : PE X a (tQ G W b1 ma)) (hb : PE X c (tQ G W b2 mb)) : PE X (.Compare a [.Eq] [c] pos) (tQ G W false (q2 eqD ma mb)) :=
  s_cmp (op_eq2 hu) (fun σ env us C n H x y d e Q r1 r2 h => eq_hf hk r1 r2 h) ha hb (nomark _)
theorem t_eq (hk : X.K = G.K) (hu : X.A.units + 64 < cLine) (ha : PE X a (tQ G W b1 ma)) (hb : PE X c (tQ G W b2 mb)) : PT X (.Compare a [.Eq] [c] pos) (tT G W (tb1 (q2 eqD ma mb) truB)) :=
  t_cmp (op_eq2 hu) (fun σ env us C n H x y d e Q r1 r2 h => eq_hf hk r1 r2 h) ha hb (nomark _)
theorem t_ne (hk : X.K = G.K) (hu : X.A.units + 64 < cLine) (ha : PE X a (tQ G W b1 ma)) (hb : PE X c (tQ G W b2 mb)) : PT X (.Compare a [.NotEq] [c] pos) (tT G W (tb1 (q2 neD ma mb) truB)) :=
  t_cmp (op_ne2 hu) (fun σ env us C n H x y d e Q r1 r2 h => ne_hf hk r1 r2 h) ha hb (nomark _)
end
end Pu
set_option Elab.async false
set_option linter.all false
set_option maxRecDepth 100000
set_option maxHeartbeats 4000000
namespace Pu
open PySem L2 Stp NdefX
open PyProof.Rows hiding St
def keyD : D → Option Key
  | .int i => some (.inl i)
  | .str s => some (.inr s)
  | _ => none
def keysD : List D → Option (List Key)
  | [] => some []
  | d :: ds => match keyD d, keysD ds with
    | some k, some ks => some (k :: ks)
    | _, _ => none
def valD {κ : Type} [DecidableEq κ] (kvs : List (κ × D)) (k : κ) : Option D := (kvs.find? fun kv => decide (kv.1 = k)).map (·.2)
section
variable {G : GC} {C : Cf} {H : Hp}
theorem Rep.key {v : V} {d : D} {k : Key} (r : Rep G C H v d) (e : keyD d = some k) : v = kV k := by
  cases r <;> try (cases e)
  · rfl
  · rfl
theorem RepL.keys : ∀ {vs : List V} {ds : List D} {ks : List Key}, RepL G C H vs ds → keysD ds = some ks → vs = ks.map kV
  | _, _, _, .nil, e => by cases e; rfl
  | _, d :: ds, ks, .cons r l, e => by
    have e : (match keyD d, keysD ds with | some k, some ks => some (k :: ks) | _, _ => none) = some ks := e
    cases q1 : keyD d with
    | none => rw [q1] at e; cases e
    | some a =>
      cases q2 : keysD ds with
      | none => rw [q1, q2] at e; cases e
      | some b =>
        rw [q1, q2] at e
        cases e
        rw [r.key q1, RepL.keys l q2]
        rfl
theorem RepK.val (k : Key) : ∀ {vs : List (Key × V)} {ds : List (Key × D)}, RepK G C H vs ds → (valD ds k = none → valV vs k = none) ∧ ∀ d, valD ds k = some d → ∃ v, valV vs k = some v ∧ Rep G C H v d
  | _, _, .nil => ⟨fun _ => rfl, fun d e => by cases e⟩
  | _, _, .cons (k := k') (v := v') (vs := vs) (d := d') (ds := ds) r l => by
    have ih := RepK.val k l
    by_cases e : k' = k
    · have e1 : valD ((k', d') :: ds) k = some d' := by simp [valD, List.find?_cons, e]
      have e2 : valV ((k', v') :: vs) k = some v' := valV_pos e
      rw [e1, e2]
      exact ⟨(fun z => by cases z), fun d q => by cases q; exact ⟨v', rfl, r⟩⟩
    · have e1 : valD ((k', d') :: ds) k = valD ds k := by simp [valD, List.find?_cons, e]
      have e2 : valV ((k', v') :: vs) k = valV vs k := valV_neg e
      rw [e1, e2]
      exact ih
theorem RepT.val (k : List Key) : ∀ {vs : List (List Key × V)} {ds : List (List Key × D)}, RepT G C H vs ds → (valD ds k = none → valV vs k = none) ∧ ∀ d, valD ds k = some d → ∃ v, valV vs k = some v ∧ Rep G C H v d
  | _, _, .nil => ⟨fun _ => rfl, fun d e => by cases e⟩
  | _, _, .cons (k := k') (v := v') (vs := vs) (d := d') (ds := ds) r l => by
    have ih := RepT.val k l
    by_cases e : k' = k
    · have e1 : valD ((k', d') :: ds) k = some d' := by simp [valD, List.find?_cons, e]
      have e2 : valV ((k', v') :: vs) k = some v' := valV_pos e
      rw [e1, e2]
      exact ⟨(fun z => by cases z), fun d q => by cases q; exact ⟨v', rfl, r⟩⟩
    · have e1 : valD ((k', d') :: ds) k = valD ds k := by simp [valD, List.find?_cons, e]
      have e2 : valV ((k', v') :: vs) k = valV vs k := valV_neg e
      rw [e1, e2]
      exact ih
theorem RepL.atI {vs : List V} {ds : List D} {i : Int} {d : D} (r : RepL G C H vs ds) (e : atI ds i = some d) : ∃ v, atI vs i = some v ∧ Rep G C H v d := by
  unfold L2.atI at e ⊢
  rw [r.length]
  cases q : ixN ds.length i with
  | none => rw [q] at e; cases e
  | some j =>
    rw [q] at e
    exact r.get (show ds[j]? = some d from e)
end
/-- a value or a stop -/
def ofO : Option D → T D
  | some d => .ret d
  | none => .fail
def ixD : D → D → T D
  | .lst xs, .int i => ofO (atI xs i)
  | .tup xs, .int i => ofO (atI xs i)
  | .wt xs, .int i => ofO (atI xs i)
  | .str z, .int i => grd (z.length ≤ big) (match atI z.cps.toList i with
    | some c => .ret (.str ⟨#[c]⟩)
    | none => .fail)
  | .dK kvs, k => match keyD k with
    | some k => ofO (valD kvs k)
    | none => .fail
  | .dT kvs, .tup ks => match keysD ks with
    | some k => ofO (valD kvs k)
    | none => .fail
  | _, _ => .fail
def rIxD : R2 := fun x y H Q => ∃ a v, x = .ref a ∧ DGet H a y (some v) ∧ Q v H
theorem ix_dict {X : Cx} (hu : X.A.units + 1 < cLine) : IxR X rIxD := by
  intro value slice pins s σ H x y v u Q I rx ry h hs
  obtain ⟨a, z, rfl, g, q⟩ := h
  cases rx
  have hT := dict_typeIs I g
  have h₂ : wpAny (model X.prog X.w) X.A (getItem (.ref a) u) (EP X pins σ Q) X.xe s := d_getItem hu I g ry fun w' s' I' rw' => ⟨z, H, I', rw', q⟩
  unfold subscriptTail
  refine wpAny_bind ?_
  rw [getitemInPython_of_ne hT.not_modules]
  refine wpAny_bind (wpAny_specialOf hT PySem.F.slot_dict_getitem.lookup ?_)
  have fin : wpAny (model X.prog X.w) X.A (subscripted slice false (.ref a) u) (fun r s₃ => wpAny (model X.prog X.w) X.A (letTemporaryGo value (.ref a) r >>= fun _ => pure r) (EP X pins σ Q) X.xe s₃) X.xe s := by
    rw [hs]
    exact wpAny_operating (wpAny_mono h₂ (fun r s₃ h₃ => wpAny_bind (wpAny_letTemporaryGo (wpAny_pure h₃))) fun _ _ x => x)
  first
    | exact wpAny_pure (wpAny_bind fin)
    | exact wpAny_bind (wpAny_pure (wpAny_bind fin))
    | exact wpAny_bind fin
section
variable {X : Cx} {G : GC} {W : WX} {b b1 b2 : Bool} {ma mb mc : Env → T D} {a c e : Expr} {pos : Pos}
theorem At.ofO {σ : St} {env : Env} {us : List Addr} {C : Cf} {n : Nat} {H : Hp} {Q : VK} {o : Option D} (h : At G W (rV G b) σ env us C n H (ofO o) Q) : ∃ d, o = some d ∧ At G W (rV G b) σ env us C n H (.ret d) Q := by
  cases o with
  | none => exact h.no.elim
  | some d => exact ⟨d, rfl, h⟩
theorem s_ix (hk : X.K = G.K) (hu : X.A.units + 1 < cLine) (ha : PE X a (tQ G W b ma)) (hb : PE X c (tQ G W false mb)) (hs : PlainIx c := by exact fun _ _ => rfl) : PE X (.Subscript a c pos) (tQ G W b (q2 ixD ma mb)) := by
  have ho := (ix_seq (X := X)).or (ix_dict hu)
  rw [hk] at ho
  refine PE.imp (pe_ix ho ha hb hs) fun σ H Q h => tQ_2 h fun env us C n H x y d e Q r1 r2 h => ?_
  have r2 := r2.unview
  cases r1 <;> try exact h.no.elim
  case lst p vs ds f h1 l =>
    cases r2 <;> try exact h.no.elim
    obtain ⟨d, e, h⟩ := h.ofO
    obtain ⟨v, e1, rv⟩ := l.atI e
    exact .inl (.inl ⟨p, vs, _, v, rfl, rfl, SqL.of h1, e1, h.ret rv⟩)
  case tup p vs ds h1 l =>
    cases r2 <;> try exact h.no.elim
    obtain ⟨d, e, h⟩ := h.ofO
    obtain ⟨v, e1, rv⟩ := l.atI e
    exact .inl (.inr (.inl ⟨p, vs, _, v, rfl, rfl, SqT.of h1, e1, h.ret rv⟩))
  case wt p vs ds h1 l =>
    cases r2 <;> try exact h.no.elim
    obtain ⟨d, e, h⟩ := h.ofO
    obtain ⟨v, e1, rv⟩ := l.atI e
    exact .inl (.inr (.inl ⟨p, vs, _, v, rfl, rfl, sqT_wt h1, e1, h.ret rv⟩))
  case str z =>
    cases r2 <;> try exact h.no.elim
    case int i =>
      obtain ⟨hl, h⟩ := h.grd
      cases q : atI z.cps.toList i with
      | none => rw [q] at h; exact h.no.elim
      | some c =>
        rw [q] at h
        exact .inl (.inr (.inr ⟨z, i, c, rfl, rfl, Nat.le_trans hl (by decide), q, h.ret (.str _)⟩))
  case dK p vs ds f h1 l =>
    have h : At G W (rV G b) σ env us C n H (match keyD e with | some k => ofO (valD ds k) | none => .fail) Q := by cases e <;> exact h
    cases q : keyD e with
    | none => rw [q] at h; exact h.no.elim
    | some k =>
      rw [q] at h
      obtain ⟨d, e1, h⟩ := h.ofO
      obtain ⟨v, e2, rv⟩ := (l.val k).2 d e1
      refine .inr ⟨p, v, rfl, ?_, h.ret rv⟩
      rw [r2.key q, ← e2]
      exact DGet.k h1
  case dT p vs ds f h1 l =>
    cases r2 <;> try exact h.no.elim
    case tup p2 vs2 ds2 h2 l2 =>
      have h : At G W (rV G b) σ env us C n H (match keysD ds2 with | some k => ofO (valD ds k) | none => .fail) Q := h
      cases q : keysD ds2 with
      | none => rw [q] at h; exact h.no.elim
      | some k =>
        rw [q] at h
        obtain ⟨d, e1, h⟩ := h.ofO
        obtain ⟨v, e2, rv⟩ := (l.val k).2 d e1
        refine .inr ⟨p, v, rfl, ?_, h.ret rv⟩
        rw [← e2]
        exact DGet.t h1 (by rw [h2, l2.keys q])
end
def cutG {α : Type} (xs : List α) (lo hi : Option Int) : List α := (xs.drop (HT.sIx xs.length 0 lo)).take (HT.sIx xs.length xs.length hi - HT.sIx xs.length 0 lo)
def sliceD : D → Option Int → Option Int → T D
  | .lst xs, lo, hi => .ret (.lst (cutG xs lo hi))
  | .tup xs, lo, hi => .ret (.tup (cutG xs lo hi))
  | _, _, _ => .fail
abbrev rO : RR (Option Int) (Option Int) := fun _ _ v d => v = d
def tO (G : GC) (W : WX) (m : Env → T (Option Int)) : TO := fun σ H Q => ∃ C n env us, At G W rO σ env us C n H (m env) Q
def oNone : Env → T (Option Int) := fun _ => .ret none
def oSome (m : Env → T D) : Env → T (Option Int) := fun env => (m env).bind fun d => match d with
  | .int i => .ret (some i)
  | _ => .fail
def qSlice (m : Env → T D) (lo hi : Env → T (Option Int)) : Env → T D := fun env => (m env).bind fun d => (lo env).bind fun l => (hi env).bind fun h => sliceD d l h
theorem PO.imp {X : Cx} {e : Option Expr} {t t' : TO} (h : PO X e t) (k : ∀ σ H Q, t' σ H Q → t σ H Q) : PO X e t' := ⟨fun pins s σ H Q I hw => h.run pins s σ H Q I (k σ H Q hw)⟩
section
variable {X : Cx} {G : GC} {W : WX} {b : Bool} {ma : Env → T D} {ml mh : Env → T (Option Int)} {a : Expr} {lo hi : Option Expr} {pos p2 : Pos}
theorem o_none : PO X none (tO G W oNone) := PO.imp po_none fun σ H Q h => by
  obtain ⟨C, n, env, us, h⟩ := h
  exact h.ret rfl
theorem o_some (ha : PE X a (tQ G W false ma)) : PO X (some a) (tO G W (oSome ma)) := PO.imp (po_some ha) fun σ H Q h => by
  obtain ⟨C, n, env, us, h⟩ := h
  refine ⟨C, n, env, us, (h.bind (R := rV G false)).imp ?_⟩
  rintro v H1 ⟨C1, n1, d, s1, r1, h1⟩
  cases r1 <;> try exact h1.no.elim
  exact ⟨_, rfl, h1.ret rfl⟩
theorem RepL.cut {C : Cf} {H : Hp} {vs : List V} {ds : List D} (r : RepL G C H vs ds) (lo hi : Option Int) : RepL G C H (cutV vs lo hi) (cutG ds lo hi) := by
  unfold cutV cutG
  rw [r.length]
  exact (r.drop _).take _
theorem s_slice (hk : X.K = G.K) (ha : PE X a (tQ G W false ma)) (hl : PO X lo (tO G W ml)) (hh : PO X hi (tO G W mh)) : PE X (.Subscript a (.Slice lo hi none p2) pos) (tQ G W false (qSlice ma ml mh)) := by
  have ho := (sl_list (X := X)).or sl_tupA
  rw [hk] at ho
  refine PE.imp (pe_slice ho ha hl hh) fun σ H Q h => ?_
  obtain ⟨C, n, env, us, h⟩ := h
  refine ⟨C, n, env, us, (h.bind (R := rV G false)).imp ?_⟩
  rintro v H1 ⟨C1, n1, d, s1, r1, h1⟩
  refine ⟨C1, n1, env, us, (h1.bind (R := rO)).imp ?_⟩
  rintro l H2 ⟨C2, n2, l', s2, r2, h2⟩
  have r2 : l = l' := r2
  subst r2
  refine ⟨C2, n2, env, us, (h2.bind (R := rO)).imp ?_⟩
  rintro u H3 ⟨C3, n3, u', s3, r3, h3⟩
  have r3 : u = u' := r3
  subst r3
  have r1 := ((r1.nx (s2.vw false)).nx (s3.vw false)).unview
  cases r1 <;> try exact h3.no.elim
  case lst p vs ds f hp l1 => exact .inl ⟨p, vs, rfl, SqL.of hp, fun q hq => h3.newL (l1.cut _ _) hq⟩
  case tup p vs ds hp l1 =>
    refine .inr ⟨p, vs, rfl, SqT.of hp, fun z => ?_, fun _ q hq => h3.newT ((l1.cut _ _).nx (Nx.view _ false _)) id hq⟩
    have e : cutG ds l u = ds := by
      unfold cutG
      rw [← l1.length, z.1, z.2, List.drop_zero, Nat.sub_zero, l1.length, List.take_length]
    have h3 : At G W (rV G false) σ env us C3 n3 H3 (.ret (.tup (cutG ds l u))) Q := h3
    rw [e] at h3
    exact h3.ret (.tup hp (l1.nx (Nx.view _ false _)))
end
end Pu
set_option Elab.async false
set_option linter.all false
set_option maxRecDepth 100000
set_option maxHeartbeats 4000000
namespace Pu
open PySem L2 Stp NdefX
open PyProof.Rows hiding St
theorem PI.imp {X : Cx} {tg e : Expr} {t t' : TI} (h : PI X tg e t) (k : ∀ σ H R, t' σ H R → t σ H R) : PI X tg e t' := ⟨fun pins s σ H R I hw => h.run pins s σ H R I (k σ H R hw)⟩
/-- the items are ds, whatever comes that leaves frozen things -/
structure Ylds (G : GC) (C : Cf) (H : Hp) (J : It) (ds : List D) : Prop where
  go : ∀ C' H', Nx C C' H H' → ∀ i d, ds[i]? = some d → J.go i H' ∧ ∀ x H'', J.yld i H' x H'' → Step [] C' H' C' H'' ∧ (∀ n, Wf G C' n H' → Wf G C' n H'') ∧ Rep G C' H'' x d
  stop : ∀ C' H', Nx C C' H H' → J.stop ds.length H'
abbrev rJ (G : GC) : RR (List D) It := fun C H J ds => Ylds G C H J ds
def tI (G : GC) (W : WX) (m : Env → T (List D)) : TI := fun σ H R => ∃ C n env us, At G W (rJ G) σ env us C n H (m env) R
def itemsD : D → T (List D)
  | .lst xs => .ret xs
  | .tup xs => .ret xs
  | .wt xs => .ret xs
  | .bw xs => .ret xs
  | _ => .fail
def iSeq (m : Env → T D) : Env → T (List D) := fun env => (m env).bind itemsD
def rngL (lo : Int) : Nat → List D
  | 0 => []
  | n + 1 => .int lo :: rngL (lo + 1) n
theorem rngL_len (lo : Int) : ∀ n : Nat, (rngL lo n).length = n
  | 0 => rfl
  | n + 1 => congrArg (· + 1) (rngL_len (lo + 1) n)
theorem rngL_at : ∀ (n : Nat) (lo : Int) (i : Nat) (d : D), (rngL lo n)[i]? = some d → i < n ∧ d = .int (lo + i)
  | 0, lo, i, d, h => by simp [rngL] at h
  | n + 1, lo, 0, d, h => by
    simp [rngL] at h
    exact ⟨Nat.succ_pos _, by rw [← h]; simp⟩
  | n + 1, lo, i + 1, d, h => by
    have ih := rngL_at n (lo + 1) i d (by simpa [rngL] using h)
    refine ⟨Nat.succ_lt_succ ih.1, ?_⟩
    rw [ih.2]
    congr 1
    omega
def rng1 (m : Env → T D) : Env → T (List D) := fun env => (m env).bind fun d => match d with
  | .int j => grd (-4611686018427387904 ≤ j ∧ j < 4611686018427387904) (.ret (rngL 0 j.toNat))
  | _ => .fail
def rng2 (m k : Env → T D) : Env → T (List D) := fun env => (m env).bind fun d => (k env).bind fun e => match d, e with
  | .int i, .int j => grd ((-4611686018427387904 ≤ i ∧ i < 4611686018427387904) ∧ -4611686018427387904 ≤ j ∧ j < 4611686018427387904) (.ret (rngL i (j - i).toNat))
  | _, _ => .fail
section
variable {X : Cx} {tg : Expr} {G : GC} {W : WX} {ma mb : Env → T D} {a c : Expr}
def iSq (K : PySem.W.Frag) (tl : TE) : TI := fun σ H R => tl σ H fun x H1 => (∃ a, x = .ref a ∧ (∃ xs, SqL K H1 a xs) ∧ R (Itl K a) H1) ∨ (∃ a, x = .ref a ∧ (∃ xs, SqT K H1 a xs) ∧ R (Itt K a) H1)
theorem pi_sq {l : Expr} {tl : TE} (hl : PE X l tl) : PI X tg l (iSq X.K tl) := by
  refine ⟨fun pins s σ H R I h => ?_⟩
  refine thn (hl.run pins s σ H _ I h) fun v s1 ⟨x, H1, I1, r1, q1⟩ => ?_
  have fp : ∀ b ∈ [s1.heap.objs.size], FpOk X pins H1 b := fun b hb => by
    rw [List.mem_singleton.mp hb]
    exact I1.fpOk (Nat.le_refl _) (I1.hok.fresh (Nat.le_refl _))
  rcases q1 with ⟨a, e, ⟨xs, hq⟩, q⟩ | ⟨a, e, ⟨xs, hq⟩, q⟩
  · subst e
    cases r1
    obtain ⟨its, rv, p, hz⟩ := I1.list hq
    exact wpAny_pyIter_list p.isList ⟨_, _, _, _, H1, rfl, I1.kept (t' := s1.toks) fun b o e => Heap.get?_push_of_some _ e, turn_list a _, ⟨_, Heap.get?_push_size _ rfl, rfl, rfl⟩, fp, q⟩
  · subst e
    cases r1
    obtain ⟨its, rv, p, hz⟩ := I1.tuple hq
    exact wpAny_pyIter_tuple (show s1.heap.IsTuple a its.toArray from p) ⟨_, _, _, _, H1, rfl, I1.kept (t' := s1.toks) fun b o e => Heap.get?_push_of_some _ e, turn_tuple a _, ⟨_, Heap.get?_push_size _ rfl, rfl, rfl⟩, fp, q⟩
theorem ylds_list {C : Cf} {H : Hp} {p : Addr} {vs : List V} {ds : List D} {K : PySem.W.Frag} (f : C.F p) (h : H p = some (.lst vs)) (l : RepL G C H vs ds) : Ylds G C H (Itl K p) ds := by
  refine ⟨fun C' H' n i d e => ?_, fun C' H' n => ?_⟩
  · have h' := (n.fk p _ f h fun _ z => nomatch z).2
    have l' := l.nx n
    obtain ⟨v, e1, rv⟩ := l'.get e
    refine ⟨⟨vs, v, SqL.of h', e1⟩, fun x H'' y => ?_⟩
    obtain ⟨e2, y⟩ := y
    subst e2
    have e3 := y vs (SqL.of h')
    rw [e1] at e3
    cases e3
    exact ⟨Step.refl _ _ _, fun _ w => w, rv⟩
  · have h' := (n.fk p _ f h fun _ z => nomatch z).2
    exact ⟨vs, SqL.of h', by rw [l.length]; exact Nat.le_refl _⟩
theorem ylds_tup {C : Cf} {H : Hp} {p : Addr} {vs : List V} {ds : List D} {K : PySem.W.Frag} (h : ∀ C' H', Nx C C' H H' → SqT K H' p vs) (inj : ∀ H' ys, SqT K H' p ys → SqT K H' p vs → ys = vs ∨ True) (l : RepL G C H vs ds) : Ylds G C H (Itt K p) ds := by
  refine ⟨fun C' H' n i d e => ?_, fun C' H' n => ?_⟩
  · have h' := h C' H' n
    have l' := l.nx n
    obtain ⟨v, e1, rv⟩ := l'.get e
    refine ⟨⟨vs, v, h', e1⟩, fun x H'' y => ?_⟩
    obtain ⟨e2, y⟩ := y
    subst e2
    have e3 := y vs h'
    rw [e1] at e3
    cases e3
    exact ⟨Step.refl _ _ _, fun _ w => w, rv⟩
  · exact ⟨vs, h C' H' n, by rw [l.length]; exact Nat.le_refl _⟩
theorem ylds_bw {C : Cf} {H : Hp} {p : Addr} {vs : List V} {ds : List D} {K : PySem.W.Frag} (h : ∃ o, H p = some (.frz o (.lst vs))) (l : RepL G C H vs ds) : Ylds G C H (Itl K p) ds := by
  obtain ⟨o, h⟩ := h
  refine ⟨fun C' H' n i d e => ?_, fun C' H' n => ?_⟩
  · have h' : SqL K H' p vs := .inl (.inr ⟨o, n.fp p _ _ h⟩)
    have l' := l.nx n
    obtain ⟨v, e1, rv⟩ := l'.get e
    refine ⟨⟨vs, v, h', e1⟩, fun x H'' y => ?_⟩
    obtain ⟨e2, y⟩ := y
    subst e2
    have e3 := y vs h'
    rw [e1] at e3
    cases e3
    exact ⟨Step.refl _ _ _, fun _ w => w, rv⟩
  · exact ⟨vs, .inl (.inr ⟨o, n.fp p _ _ h⟩), by rw [l.length]; exact Nat.le_refl _⟩
theorem i_seq (hk : X.K = G.K) (ha : PE X a (tQ G W false ma)) : PI X tg a (tI G W (iSeq ma)) := by
  refine PI.imp (pi_sq ha) fun σ H R h => ?_
  obtain ⟨C, n, env, us, h⟩ := h
  refine ⟨C, n, env, us, (h.bind (R := rV G false)).imp ?_⟩
  rintro v H1 ⟨C1, n1, d, s1, r1, h1⟩
  have r1 := r1.unview
  rw [hk]
  cases r1 <;> try exact h1.no.elim
  case lst p vs ds f hp l => exact .inl ⟨p, rfl, ⟨vs, SqL.of hp⟩, h1.ret (ylds_list f hp l)⟩
  case tup p vs ds hp l => exact .inr ⟨p, rfl, ⟨vs, SqT.of hp⟩, h1.ret (ylds_tup (fun C' H' n => SqT.of (n.tp _ _ hp)) (fun _ _ _ _ => .inr trivial) l)⟩
  case wt p vs ds hp l => exact .inr ⟨p, rfl, ⟨vs, sqT_wt hp⟩, h1.ret (ylds_tup (fun C' H' n => sqT_wt hp) (fun _ _ _ _ => .inr trivial) l)⟩
  case bw p vs ds hp l => exact .inl ⟨p, rfl, ⟨vs, .inl (.inr hp)⟩, h1.ret (ylds_bw hp l)⟩
theorem ylds_rng {C : Cf} {H : Hp} {lo : Int} {n : Nat} : Ylds G C H (Itr lo n) (rngL lo n) := by
  refine ⟨fun C' H' _ i d e => ?_, fun C' H' _ => ?_⟩
  · obtain ⟨h1, h2⟩ := rngL_at n lo i d e
    refine ⟨h1, fun x H'' y => ?_⟩
    obtain ⟨e2, y⟩ := y
    subst e2 y h2
    exact ⟨Step.refl _ _ _, fun _ w => w, .int _⟩
  · show n ≤ (rngL lo n).length
    rw [rngL_len]
    exact Nat.le_refl _
theorem i_range1 {p pos : Pos} (hg : Gl X "range") (hm : X.mg "range" = none) (ha : PE X a (tQ G W false ma)) (hs : starEach [a] X.env = [(false, eval a X.env)] := by rfl) (hs' : starEach [a] X.env = (false, eval a X.env) :: starEach [] X.env := by rfl) : PI X tg (.Call (.Name "range" p) [a] [] pos) (tI G W (rng1 ma)) := by
  refine PI.imp (pi_range1 hg hm (pa_cons ha pa_nil hs') hs) fun σ H R h => ?_
  obtain ⟨C, n, env, us, h⟩ := h
  refine ⟨C, n, env, us, (h.bind (R := rV G false)).imp ?_⟩
  rintro v H1 ⟨C1, n1, d, s1, r1, h1⟩
  cases r1 <;> try exact h1.no.elim
  case int j =>
    obtain ⟨hl, h1⟩ := h1.grd
    exact ⟨j, rfl, hl.1, hl.2, h1.ret ylds_rng⟩
end
inductive Pt where
  | nm (i : Nat) | tp (is : List Nat)
def Pt.slots : Pt → List Nat
  | .nm i => [i]
  | .tp is => is
def putL : List Nat → List D → Env → Env
  | i :: is, d :: ds, env => putL is ds (env.set i (some (.fz d)))
  | _, _, env => env
def putP : Pt → D → Env → Option Env
  | .nm i, d, env => some (env.set i (some (.fz d)))
  | .tp is, .tup ds, env => if ds.length = is.length then some (putL is ds env) else none
  | .tp is, .wt ds, env => if ds.length = is.length then some (putL is ds env) else none
  | .tp is, .lst ds, env => if ds.length = is.length then some (putL is ds env) else none
  | _, _, _ => none
def setL : List Nat → List V → St → St
  | i :: is, v :: vs, σ => setL is vs (σ.set i (some v))
  | _, _, σ => σ
def gNs (is : List Nat) : TGs := fun vs σ H Q => vs.length = is.length ∧ Q (setL is vs σ) H
def gP (K : PySem.W.Frag) : Pt → TG
  | .nm i => gName i
  | .tp is => fun v σ H Q => gTup K is.length (gNs is) v σ H Q ∨ gUnl K is.length (gNs is) v σ H Q
theorem pg_tp {X : Cx} {pos : Pos} {es : List Expr} {k : Nat} {is : List Nat} (hc : X.calm = true) (h : PGs X es (gNs is)) (h1 : (assignEach es X.env).length = is.length := by rfl) (h2 : List.findIdx? (fun x => x.1) (assignEach es X.env) = none := by rfl) : PG X (.Tuple es k pos) (gP X.K (.tp is)) :=
  ⟨fun pins s σ H v u Q I r hw => hw.elim (fun q => (pg_tup hc h h1 h2).run pins s σ H v u Q I r q) (fun q => (pg_unl hc h h1 h2).run pins s σ H v u Q I r q)⟩
theorem PGs.imp {X : Cx} {es : List Expr} {t t' : TGs} (h : PGs X es t) (k : ∀ vs σ H Q, t' vs σ H Q → t vs σ H Q) : PGs X es t' := ⟨fun pins s σ H xs us Q I r hw => h.run pins s σ H xs us Q I r (k xs σ H Q hw)⟩
section
variable {X : Cx}
theorem gn_nil : PGs X [] (gNs []) := PGs.imp pgs_nil fun vs σ H Q h => by
  obtain ⟨h1, h2⟩ := h
  cases vs with
  | nil => exact ⟨rfl, h2⟩
  | cons _ _ => cases h1
theorem gn_cons {e : Expr} {es : List Expr} {i : Nat} {is : List Nat} (h : PG X e (gName i)) (r : PGs X es (gNs is)) (hs : (assignEach (e :: es) X.env).map (·.2) = assign e X.env :: (assignEach es X.env).map (·.2) := by rfl) : PGs X (e :: es) (gNs (i :: is)) := PGs.imp (pgs_cons h r hs) fun vs σ H Q h => by
  obtain ⟨h1, h2⟩ := h
  cases vs with
  | nil => cases h1
  | cons v vs => exact ⟨v, vs, rfl, Nat.succ.inj h1, h2⟩
end
section
variable {G : GC} {C : Cf} {n : Nat} {H : Hp}
theorem wipe_at {vs : List Nat} (σ : St) (i : Nat) (x : Option V) (hi : i ∈ vs) : wipe (σ.set i x) vs = wipe σ vs := by
  induction vs with
  | nil => cases hi
  | cons v vs ih =>
    unfold wipe
    by_cases h : i ∈ vs
    · rw [ih h]
    · have e : i = v := by
        rcases List.mem_cons.mp hi with h' | h'
        · exact h'
        · exact absurd h' h
      subst e
      have q : ∀ (ws : List Nat) (τ : St), i ∉ ws → wipe (τ.set i x) ws = (wipe τ ws).set i x := by
        intro ws
        induction ws with
        | nil => intro τ _; rfl
        | cons w ws ih2 =>
          intro τ hw
          unfold wipe
          rw [ih2 τ (fun z => hw (List.mem_cons_of_mem _ z))]
          exact List.set_comm _ _ (fun z => hw (by rw [z]; exact List.mem_cons_self ..))
      rw [q vs σ h, List.set_set]
theorem Ok.putL : ∀ {is : List Nat} {ds : List D} {vs : List V} {σ : St} {env : Env} {us : List Addr}, Ok G C n σ env us H → RepL G C H vs ds → ds.length = is.length → ∃ us', Ok G C n (setL is vs σ) (putL is ds env) us' H ∧ (∀ a ∈ us', a ∈ us) ∧ ∀ ws, (∀ j ∈ is, j ∈ ws) → wipe (setL is vs σ) ws = wipe σ ws
  | [], [], _, σ, env, us, k, .nil, _ => ⟨us, k, fun _ h => h, fun _ _ => rfl⟩
  | i :: is, d :: ds, _, σ, env, us, k, .cons (v := v) (vs := vs) r l, h => by
    obtain ⟨us1, k1, s1⟩ := k.put r i
    obtain ⟨us2, k2, s2, w2⟩ := Ok.putL (is := is) k1 l (Nat.succ.inj h)
    refine ⟨us2, k2, fun a m => s1 a (s2 a m), fun ws hw => ?_⟩
    rw [show setL (i :: is) (v :: vs) σ = setL is vs (σ.set i (some v)) from rfl, w2 ws fun j m => hw j (List.mem_cons_of_mem _ m), wipe_at σ i _ (hw i (List.mem_cons_self ..))]
  | [], _ :: _, _, _, _, _, _, .cons _ _, h => by cases h
  | _ :: _, [], _, _, _, _, _, .nil, h => by cases h
theorem gP_ok {K : PySem.W.Frag} (hk : K = G.K) {pt : Pt} {d : D} {v : V} {σ : St} {env env' : Env} {us : List Addr} {Q : St → Hp → Prop} (k : Ok G C n σ env us H) (r : Rep G C H v d) (e : putP pt d env = some env')
    (h : ∀ σ' us', Ok G C n σ' env' us' H → (∀ a ∈ us', a ∈ us) → (∀ ws, (∀ j ∈ pt.slots, j ∈ ws) → wipe σ' ws = wipe σ ws) → Q σ' H) : gP K pt v σ H Q := by
  subst hk
  cases pt with
  | nm i =>
    cases e
    obtain ⟨us', k1, s1⟩ := k.put r i
    exact h _ us' k1 s1 fun ws hw => wipe_at σ i _ (hw i (List.mem_singleton.mpr rfl))
  | tp is =>
    cases r <;> try (cases e)
    case tup p vs ds hp l =>
      have e : (if ds.length = is.length then some (Pu.putL is ds env) else none) = some env' := e
      by_cases hl : ds.length = is.length
      · rw [if_pos hl] at e
        cases e
        obtain ⟨us', k1, s1, w1⟩ := k.putL l hl
        exact .inl ⟨p, vs, rfl, SqT.of hp, by rw [l.length]; exact hl, by rw [l.length]; exact hl, h _ us' k1 s1 w1⟩
      · rw [if_neg hl] at e; cases e
    case wt p vs ds hp l =>
      have e : (if ds.length = is.length then some (Pu.putL is ds env) else none) = some env' := e
      by_cases hl : ds.length = is.length
      · rw [if_pos hl] at e
        cases e
        obtain ⟨us', k1, s1, w1⟩ := k.putL l hl
        exact .inl ⟨p, vs, rfl, sqT_wt hp, by rw [l.length]; exact hl, by rw [l.length]; exact hl, h _ us' k1 s1 w1⟩
      · rw [if_neg hl] at e; cases e
    case lst p vs ds f hp l =>
      have e : (if ds.length = is.length then some (Pu.putL is ds env) else none) = some env' := e
      by_cases hl : ds.length = is.length
      · rw [if_pos hl] at e
        cases e
        obtain ⟨us', k1, s1, w1⟩ := k.putL l hl
        exact .inr ⟨p, vs, rfl, SqL.of hp, by rw [l.length]; exact hl, by rw [l.length]; exact hl, h _ us' k1 s1 w1⟩
      · rw [if_neg hl] at e; cases e
end
abbrev W0 : WX := fun _ _ _ _ => False
namespace T
variable {α : Type}
def noX : T α → T α
  | .ret a => .ret a
  | .ex _ => .fail
  | .draw u k => .draw u fun d => (k d).noX
  | .fail => .fail
theorem wp_noX {Q : α → Nat → Prop} {E E' : D → Nat → Prop} : ∀ {t : T α} {n : Nat}, t.noX.wp n Q E → t.wp n Q E'
  | .ret _, _, h => h
  | .ex _, _, h => h.elim
  | .draw _ _, _, h => ⟨h.1, h.2.1, h.2.2.1, fun d hd => wp_noX (h.2.2.2 d hd)⟩
  | .fail, _, h => h.elim
end T
def wipeE (env : Env) : List Nat → Env
  | [] => env
  | v :: vs => (wipeE env vs).set v none
def compL (pt : Pt) (env : Env) (tt : Env → T Bool) (me : Env → T D) : List D → T (List D)
  | [] => .ret []
  | d :: ds => match putP pt d env with
    | none => .fail
    | some env' => (tt env').noX.bind fun k => if k = true then (me env').noX.bind fun y => (compL pt env tt me ds).bind fun r => .ret (y :: r) else compL pt env tt me ds
def qCompR (it : Env → T (List D)) (pt : Pt) (own : List Nat) (tt : Env → T Bool) (me : Env → T D) : Env → T (List D) := fun env => (it env).bind fun ds => grd (ds.length ≤ big) (compL pt (wipeE env own) tt me ds)
def qComp (it : Env → T (List D)) (pt : Pt) (own : List Nat) (tt : Env → T Bool) (me : Env → T D) : Env → T D := fun env => (qCompR it pt own tt me env).bind fun r => .ret (.lst r)
section
variable {G : GC} {C C1 : Cf} {n : Nat} {H H1 : Hp}
theorem EnvR.wipeL : ∀ (vs : List Nat) {σ : St} {env : Env} {us : List Addr}, EnvR G C H σ env us → ∃ us', EnvR G C H (L2.wipe σ vs) (wipeE env vs) us' ∧ us'.Sublist us
  | [], _, _, us, r => ⟨us, r, List.Sublist.refl _⟩
  | v :: vs, _, _, _, r => by
    obtain ⟨us1, r1, s1⟩ := EnvR.wipeL vs r
    obtain ⟨us2, r2, s2⟩ := r1.wipe v none
    exact ⟨us2, r2, s2.trans s1⟩
/-- a thing of one's own, made behind H1, changes -/
theorem own_mut {p : Addr} {o o' : HO} (h1 : H1 p = none) (s : Step [] C1 H1 C H) (hp : H p = some o) (nf : ¬ C.F p) (m1 : ∀ xs, o ≠ .tup xs) (m2 : ∀ a u, o ≠ .frz a u) (m3 : ∀ φ, o = .ext φ → ¬ Keep p φ) : Nx C C H (upd H p o') ∧ Step [] C1 H1 C (upd H p o') := by
  have ne : ∀ a u, H a = some u → u ≠ o → upd H p o' a = some u := fun a u h d => by
    rw [upd_ne (fun z => d (by rw [z, hp] at h; exact (Option.some.inj h).symm))]
    exact h
  have nx : Nx C C H (upd H p o') := ⟨fun a u f h _ => ⟨f, by rw [upd_ne (fun z => nf (by rw [← z]; exact f))]; exact h⟩, fun a xs h => ne a _ h fun z => m1 xs z.symm, fun a u x h => ne a _ h fun z => m2 u x z.symm, fun a φ h k => by
    by_cases e : a = p
    · rw [e] at h k; rw [hp] at h; exact absurd k (m3 φ (Option.some.inj h))
    · rw [upd_ne e]; exact h, fun _ h => h⟩
  refine ⟨nx, fun a u h t h2 h3 => ?_, fun a u h => ?_, s.nx.trans nx, s.fn, s.pf, s.me⟩
  · rw [upd_ne (ne_of_none h h1)]
    exact s.kp a u h t h2 h3
  · rw [upd_ne (ne_of_none h h1)]
    exact s.al a u h
theorem Wf.mut {p : Addr} {o o' : HO} (w : Wf G C n H) (hp : H p = some o) (nf : ¬ C.F p) (np : p ∉ C.pa) (t : noTbl o) (m3 : ∀ φ, o = .ext φ → ¬ Keep p φ) : Wf G C n (upd H p o') := by
  have at_ : ∀ a, a ≠ p → upd H p o' a = H a := fun a h => upd_ne h
  refine ⟨fun q c e => ?_, fun a f => ?_, fun x hx => ?_⟩
  · have hq : p ≠ q ∧ p ≠ c := by
      refine ⟨fun z => np ?_, fun z => np ?_⟩ <;> (unfold Cf.pa; rw [e, z]; simp)
    exact (w.pen q c e).other hq.1 hq.2
  · obtain ⟨⟨u, h1, h2⟩, h3⟩ := w.fz a f
    exact ⟨⟨u, by rw [at_ a (fun z => nf (by rw [← z]; exact f))]; exact h1, h2⟩, h3⟩
  · obtain ⟨ps, h1, h2, h3⟩ := w.tab x hx
    refine ⟨ps, by rw [at_ _ (fun z => t ps (by rw [z, hp] at h1; exact Option.some.inj h1))]; exact h1, h2, fun pos cv hc => ?_⟩
    obtain ⟨c, e1, e2⟩ := h3 pos cv hc
    refine ⟨c, e1, ?_⟩
    rw [at_ c (fun z => by rw [z, hp] at e2; exact m3 _ (Option.some.inj e2) (z ▸ keep_code))]
    exact e2
theorem EnvR.mut {p : Addr} {o' : HO} {σ : St} {env : Env} {us : List Addr} (e : EnvR G C H σ env us) (nx : Nx C C H (upd H p o')) (nu : p ∉ us) : EnvR G C (upd H p o') σ env us :=
  e.nx nx rfl fun a m u h => by rw [upd_ne (fun z => nu (by rw [← z]; exact m))]; exact h
theorem Ok.mut {p : Addr} {o o' : HO} {σ : St} {env : Env} {us : List Addr} (k : Ok G C n σ env us H) (nx : Nx C C H (upd H p o')) (nu : p ∉ us) (hp : H p = some o) (nf : ¬ C.F p) (np : p ∉ C.pa) (t : noTbl o) (m3 : ∀ φ, o = .ext φ → ¬ Keep p φ) : Ok G C n σ env us (upd H p o') := by
  refine ⟨k.wf.mut hp nf np t m3, k.env.mut nx nu, k.nd, fun a m => ?_⟩
  obtain ⟨h1, h2, u, h3, h4⟩ := k.us a m
  exact ⟨h1, h2, u, by rw [upd_ne (fun z => nu (by rw [← z]; exact m))]; exact h3, h4⟩
end
end Pu
set_option Elab.async false
set_option linter.all false
set_option maxRecDepth 100000
set_option maxHeartbeats 4000000
namespace Pu
open PySem L2 Stp NdefX
open PyProof.Rows hiding St
section
variable {X : Cx} {G : GC} {W : WX}
theorem pts_yes : PTs X [] (tT G W fun _ => .ret true) := ⟨fun pins s σ H Q I h => pts_nil.run pins s σ H Q I (by
  obtain ⟨C, n, env, us, h⟩ := h
  exact h.ret rfl)⟩
theorem comp_core {K : PySem.W.Frag} (hk : K = G.K) {it : Env → T (List D)} {pt : Pt} {own : List Nat} {tt : Env → T Bool} {me : Env → T D} {σ : St} {env : Env} {us : List Addr} {C : Cf} {n : Nat} {H : Hp} {Q : VK} {R : RR (List D) V} (hown : ∀ j ∈ pt.slots, j ∈ own)
    (hfin : ∀ C1 H1 Ci ni Hi vs acc L, Step [] C H C1 H1 → H1 L = none → Step [] C1 H1 Ci Hi → Hi L = some (.lst vs) → RepL G Ci Hi vs acc → ¬ Ci.F L → L ∉ Ci.pa → Wf G Ci ni Hi → ∃ C', Step [] C1 H1 C' Hi ∧ Wf G C' ni Hi ∧ R C' Hi (.ref L) acc)
    (h : At G W R σ env us C n H (qCompR it pt own tt me env) Q) : tLc (tI G W it) (gP K pt) (tT G W0 tt) (tQ G W0 false me) own σ H Q := by
  refine ⟨C, n, env, us, (h.bind (R := rJ G)).imp ?_⟩
  rintro J H1 ⟨C1, n1, ds, s1, y1, h1⟩ L hL
  obtain ⟨hlen, h1⟩ := h1.grd
  have nLp : L ∉ C1.pa := h1.ok.wf.pne hL
  have nLf : ¬ C1.F L := fun z => by
    obtain ⟨⟨o, e, _⟩, _⟩ := h1.ok.wf.fz L z
    rw [hL] at e
    cases e
  have nLu : L ∉ us := fun z => by
    obtain ⟨_, _, o, e, _⟩ := h1.ok.us L z
    rw [hL] at e
    cases e
  obtain ⟨us2, e2, sb2⟩ := h1.ok.env.wipeL own
  have ok2 := h1.ok.sub e2 sb2
  have nLu2 : L ∉ us2 := fun z => nLu (sb2.subset z)
  -- the word of the loop
  refine ⟨fun i m Hi => m = ds.length - i ∧ i ≤ ds.length ∧ ∃ Ci ni vs acc, Step [] C1 H1 Ci Hi ∧ Hi L = some (.lst vs) ∧ RepL G Ci Hi vs acc ∧ acc.length ≤ i ∧ Ok G Ci ni (wipe σ own) (wipeE env own) us2 Hi ∧ ¬ Ci.F L ∧ L ∉ Ci.pa ∧
    (compL pt (wipeE env own) tt me (ds.drop i)).wp ni (fun r n' => ∀ C' H' v, Step [] C1 H1 C' H' → Wf G C' n' H' → R C' H' v (acc ++ r) → Q v H') (fun e n' => ∀ C' H' cls dx, Step [] C1 H1 C' H' → Wf G C' n' H' → RepX G cls dx e → W cls dx σ H'), ⟨ds.length, by simp, Nat.zero_le _, C1, n1, [], [], ?_, upd_same, .nil, Nat.le_refl _, ?_, nLf, nLp, ?_⟩, ?_⟩
  · exact step_tup hL
  · have nx := (step_tup (C := C1) (o := .lst []) hL).nx
    refine ⟨ok2.wf.tup hL, e2.nx nx rfl fun a m u e => same_new hL _ _ e, ok2.nd, fun a m => ?_⟩
    obtain ⟨q1, q2, u, q3, q4⟩ := ok2.us a m
    exact ⟨q1, q2, u, same_new hL _ _ q3, q4⟩
  · rw [List.drop_zero]
    exact T.wp_mono h1.wp (fun r m _ z C' H' v s w rr => z C' H' v s w rr) (fun e m _ z => z)
  · rintro i m Hi ⟨rfl, hi, Ci, ni, vs, acc, si, hLi, rl, la, oki, nfi, npi, wpi⟩
    by_cases hlt : i < ds.length
    · have ei : ds[i]? = some ds[i] := List.getElem?_eq_getElem hlt
      obtain ⟨go, yl⟩ := y1.go Ci Hi si.nx i _ ei
      refine .inr ⟨go, fun Hn => i < ds.length ∧ ∃ Ci ni vs acc, Step [] C1 H1 Ci Hn ∧ Hn L = some (.lst vs) ∧ RepL G Ci Hn vs acc ∧ acc.length ≤ i + 1 ∧ Ok G Ci ni (wipe σ own) (wipeE env own) us2 Hn ∧ ¬ Ci.F L ∧ L ∉ Ci.pa ∧
        (compL pt (wipeE env own) tt me (ds.drop (i + 1))).wp ni (fun r n' => ∀ C' H' v, Step [] C1 H1 C' H' → Wf G C' n' H' → R C' H' v (acc ++ r) → Q v H') (fun e n' => ∀ C' H' cls dx, Step [] C1 H1 C' H' → Wf G C' n' H' → RepX G cls dx e → W cls dx σ H'),
        fun H' p => ⟨ds.length - (i + 1), by omega, rfl, p.1, p.2⟩, fun x H' y => ?_⟩
      obtain ⟨sy, wy, ry⟩ := yl x H' y
      have oky := oki.q sy (wy _ oki.wf)
      have siy := si.trans sy (by simp)
      rw [List.drop_eq_getElem_cons hlt] at wpi
      unfold compL at wpi
      cases ep : putP pt ds[i] (wipeE env own) with
      | none => rw [ep] at wpi; exact False.elim wpi
      | some env' =>
        rw [ep] at wpi
        refine gP_ok hk oky ry ep fun σ' us' ok' sub' wp' => ⟨?_, Ci, ni, env', us', ok', ?_⟩
        · rw [wp' own hown]
          have ww : ∀ (vs : List Nat) (τ : St), wipe (wipe τ vs) vs = wipe τ vs := by
            intro vs
            induction vs with
            | nil => intro τ; rfl
            | cons v vs ih =>
              intro τ
              show (wipe ((wipe τ vs).set v none) vs).set v none = (wipe τ vs).set v none
              by_cases hv : v ∈ vs
              · rw [wipe_at _ v none hv, ih]
              · have q : ∀ (ws : List Nat) (τ : St), v ∉ ws → wipe (τ.set v none) ws = (wipe τ ws).set v none := by
                  intro ws
                  induction ws with
                  | nil => intro τ _; rfl
                  | cons w ws ih2 =>
                    intro τ hw
                    unfold wipe
                    rw [ih2 τ (fun z => hw (List.mem_cons_of_mem _ z))]
                    exact List.set_comm _ _ (fun z => hw (by rw [z]; exact List.mem_cons_self ..))
                rw [q vs _ hv, ih, List.set_set]
          exact ww own σ
        refine T.wp_mono (T.wp_noX (E' := fun _ _ => False) (T.wp_bind wpi)) (fun k nk _ wk Ck Hk bk sk wfk rk => ?_) (fun _ _ _ z => False.elim z)
        have rk : bk = k := rk
        subst rk
        have hLy : H' L = some (.lst vs) := sy.kp L _ hLi (fun _ z => nomatch z) (by simp) npi
        have npk : L ∉ Ck.pa := fun z => by
          rcases sk.pf L z with z | z
          · exact npi z
          · rw [hLy] at z; cases z
        have nfk : ¬ Ck.F L := fun z => by
          rcases sk.fn L z with z | z | z
          · exact nfi z
          · cases z
          · rw [hLy] at z; cases z
        have hLk : Hk L = some (.lst vs) := sk.kp L _ hLy (fun _ z => nomatch z) (by simp) npi
        have sik := siy.trans sk (by simp)
        have okk := oky.q sk wfk
        cases bk with
        | false =>
          refine iteF ⟨hlt, Ck, nk, vs, acc, sik, hLk, (rl.nx sy.nx).nx sk.nx, by omega, okk, nfk, npk, ?_⟩
          exact wk
        | true =>
          have ok'k := ok'.q sk wfk
          refine iteT ⟨Ck, nk, env', us', ok'k, ?_⟩
          refine T.wp_mono (T.wp_noX (E' := fun _ _ => False) (T.wp_bind wk)) (fun d ne _ we Ce He v se wfe re => ?_) (fun _ _ _ z => False.elim z)
          have hLe : He L = some (.lst vs) := se.kp L _ hLk (fun _ z => nomatch z) (by simp) npk
          have npe : L ∉ Ce.pa := fun z => by
            rcases se.pf L z with z | z
            · exact npk z
            · rw [hLk] at z; cases z
          have nfe : ¬ Ce.F L := fun z => by
            rcases se.fn L z with z | z | z
            · exact nfk z
            · cases z
            · rw [hLk] at z; cases z
          have sie := sik.trans se (by simp)
          have oke := okk.q se wfe
          have rl' : RepL G Ce He (vs ++ [v]) (acc ++ [d]) := (((rl.nx sy.nx).nx sk.nx).nx se.nx).append (.cons re.unview .nil)
          obtain ⟨nx, st⟩ := own_mut (o' := .lst (vs ++ [v])) hL sie hLe nfe (fun _ z => nomatch z) (fun _ _ z => nomatch z) (fun _ z => nomatch z)
          refine ⟨vs, hLe, ?_, hlt, Ce, ne, vs ++ [v], acc ++ [d], st, upd_same, rl'.nx nx, ?_, oke.mut nx nLu2 hLe nfe npe (fun _ z => nomatch z) (fun _ z => nomatch z), nfe, npe, ?_⟩
          · rw [((rl.nx sy.nx).nx sk.nx).length]
            exact Nat.lt_of_le_of_lt (Nat.le_trans la (Nat.le_trans hi hlen)) (by decide)
          · rw [List.length_append]
            exact Nat.succ_le_succ la
          · refine T.wp_mono (T.wp_bind we) (fun r m _ z C' H'' v' s w rr => z C' H'' v' s w ?_) (fun e m _ z => z)
            have e : acc ++ d :: r = acc ++ [d] ++ r := by simp
            rw [e]
            exact rr
    · have e : i = ds.length := by omega
      subst e
      refine .inl ⟨y1.stop Ci Hi si.nx, ?_⟩
      rw [List.drop_length] at wpi
      have wpi : ∀ C' H' v, Step [] C1 H1 C' H' → Wf G C' ni H' → R C' H' v (acc ++ []) → Q v H' := wpi
      rw [List.append_nil] at wpi
      obtain ⟨C', t1, t2, t3⟩ := hfin C1 H1 Ci ni Hi vs acc L s1 hL si hLi rl nfi npi oki.wf
      exact wpi C' Hi (.ref L) t1 t2 t3
theorem frz_fin {C1 Ci : Cf} {ni : Nat} {H1 Hi : Hp} {vs : List V} {acc : List D} {L : Addr} (hL : H1 L = none) (si : Step [] C1 H1 Ci Hi) (hLi : Hi L = some (.lst vs)) (rl : RepL G Ci Hi vs acc) (npi : L ∉ Ci.pa) (wf : Wf G Ci ni Hi) :
    ∃ C', Step [] C1 H1 C' Hi ∧ Wf G C' ni Hi ∧ Rep G (C'.vw false) Hi (.ref L) (.lst acc) := by
  have nx : Nx Ci (Ci.add L) Hi Hi := ⟨fun a u f h _ => ⟨.inr f, h⟩, fun _ _ h => h, fun _ _ _ h => h, fun _ _ h _ => h, fun _ h => h⟩
  refine ⟨Ci.add L, ⟨si.kp, si.al, si.nx.trans nx, fun a z => ?_, si.pf, si.me⟩, ⟨wf.pen, fun a z => ?_, wf.tab⟩, .lst (.inl (.inl rfl)) hLi ((rl.nx nx).nx (Nx.view _ false _))⟩
  · rcases z with z | z
    · exact .inr (.inr (by rw [z]; exact hL))
    · exact si.fn a z
  · rcases z with z | z
    · rw [z]
      exact ⟨⟨_, hLi, fun _ z => nomatch z⟩, npi⟩
    · exact wf.fz a z
theorem comp_read {K : PySem.W.Frag} (hk : K = G.K) {it : Env → T (List D)} {pt : Pt} {own : List Nat} {tt : Env → T Bool} {me : Env → T D} {σ : St} {H : Hp} {Q : VK} (hown : ∀ j ∈ pt.slots, j ∈ own) (h : tQ G W false (qComp it pt own tt me) σ H Q) :
    tLc (tI G W it) (gP K pt) (tT G W0 tt) (tQ G W0 false me) own σ H Q := by
  obtain ⟨C, n, env, us, h⟩ := h
  refine comp_core (R := fun C H v ds => Rep G (C.vw false) H v (.lst ds)) hk hown (fun C1 H1 Ci ni Hi vs acc L _ hL si hLi rl _ npi wf => frz_fin hL si hLi rl npi wf) (C := C) (n := n) (env := env) (us := us) ⟨h.ok, ?_⟩
  exact T.wp_mono (T.wp_bind h.wp) (fun r m _ z C' H' v s w rr => z C' H' v s w rr) (fun e m _ z => z)
theorem s_comp {it : Env → T (List D)} {pt : Pt} {tt : Env → T Bool} {me : Env → T D} {elt tg iter : Expr} {ifs : List Expr} {scope : Scope} {own : List (Str × Nat)} {pos : Pos} (hk : X.K = G.K) (hc : X.calm = true) (hN : X.N.Nodup) (hi : PI X tg iter (tI G W it)) (ok : BlkOk X.N X.env.scope scope own) (hown : ∀ j ∈ pt.slots, j ∈ own.map (·.2))
    (hg : ∀ (s : Shared) (H : Hp) (C : Addr) (cl : List (Str × Addr)) (fp : List Addr), PG (X.blk s H scope (compEnvC scope cl C X.env) fp) tg (gP X.K pt)) (ht : ∀ (s : Shared) (H : Hp) (C : Addr) (cl : List (Str × Addr)) (fp : List Addr), PTs (X.blk s H scope (compEnvC scope cl C X.env) fp) ifs (tT G W0 tt))
    (he : ∀ (s : Shared) (H : Hp) (C : Addr) (cl : List (Str × Addr)) (fp : List Addr), PE (X.blk s H scope (compEnvC scope cl C X.env) fp) elt (tQ G W0 false me)) (hs : ∀ x, foldedSetIterable iter X.env x = pure x := by intro _; rfl) :
    PE X (.ListComp elt [⟨tg, iter, ifs, 0⟩] scope pos) (tQ G W false (qComp it pt (own.map (·.2)) tt me)) := PE.imp (pe_lc hc hN hi ok hg ht he hs) fun σ H Q h => comp_read hk hown h
end
end Pu
set_option Elab.async false
set_option linter.all false
set_option maxRecDepth 100000
set_option maxHeartbeats 4000000
namespace Pu
open PySem L2 Stp NdefX
open PyProof.Rows hiding St
inductive Fl where
  | nx (env : Env) | rt (d : D) | bk (env : Env) | ct (env : Env) | ex (e : D) (env : Env) | ro (o : O)
def FlP (G : GC) (W : WX) (C : Cf) (n : Nat) (H : Hp) (us : List Addr) (E : Ends) : Fl → Prop
  | .nx env => ∀ σ, Ok G C n σ env us H → E.nx σ H
  | .bk env => ∀ σ, Ok G C n σ env us H → E.bk σ H
  | .ct env => ∀ σ, Ok G C n σ env us H → E.ct σ H
  | .rt d => ∀ v, Wf G C n H → Rep G C H v d → E.rt v H
  | .ex e env => ∀ σ cls dx, Ok G C n σ env us H → RepX G cls dx e → W cls dx σ H
  /- a thing of one's own is given back -/
  | .ro o => ∀ v, Wf G C n H → OwnR G C H v o us → us.Nodup → (∀ a ∈ us, ¬ C.F a ∧ a ∉ C.pa ∧ ∃ u, H a = some u ∧ noTbl u) → E.rt v H
structure AtS (G : GC) (W : WX) (σ : St) (env : Env) (us : List Addr) (C : Cf) (n : Nat) (H : Hp) (t : T Fl) (E : Ends) : Prop where
  ok : Ok G C n σ env us H
  wp : t.wp n (fun r n' => ∀ C' H' us', Step us C H C' H' → (∀ a ∈ us', a ∈ us ∨ H a = none) → FlP G W C' n' H' us' E r) (fun _ _ => False)
def tS (G : GC) (W : WX) (m : Env → T Fl) : TS := fun E σ H => ∃ C n env us, AtS G W σ env us C n H (m env) E
section
variable {G : GC} {W : WX} {σ : St} {env : Env} {us : List Addr} {C : Cf} {n : Nat} {H : Hp} {E : Ends}
theorem Step.back {us : List Addr} {C C1 : Cf} {H H1 : Hp} (s : Step us C H C1 H1) {a : Addr} (h : H1 a = none) : H a = none := by
  cases e : H a with
  | none => rfl
  | some o =>
    obtain ⟨o', h'⟩ := s.al a o e
    rw [h'] at h
    cases h
/-- what is asked behind a quiet step -/
theorem AtS.after {t : T Fl} {C1 : Cf} {n1 : Nat} {H1 : Hp} (k : Ok G C n σ env us H) (s : Step [] C H C1 H1) (w : Wf G C1 n1 H1) (h : t.wp n1 (fun r n' => ∀ C' H' us', Step us C H C' H' → (∀ a ∈ us', a ∈ us ∨ H a = none) → FlP G W C' n' H' us' E r) (fun _ _ => False)) : AtS G W σ env us C1 n1 H1 t E :=
  ⟨k.q s w, T.wp_mono h (fun r m _ z C' H' us' s' hu => z C' H' us' ((s.up (us' := us) (by simp)).trans s' fun x hx => .inl hx) fun a ha => (hu a ha).elim .inl fun e => .inr (s.back e)) fun _ _ _ z => z⟩
/-- behind a step that changes what is owned -/
theorem AtS.afterS {t : T Fl} {C1 : Cf} {n1 : Nat} {H1 : Hp} {σ1 : St} {env1 : Env} {us1 : List Addr} (s : Step us C H C1 H1) (hu1 : ∀ a ∈ us1, a ∈ us ∨ H a = none) (k1 : Ok G C1 n1 σ1 env1 us1 H1) (h : t.wp n1 (fun r n' => ∀ C' H' us', Step us C H C' H' → (∀ a ∈ us', a ∈ us ∨ H a = none) → FlP G W C' n' H' us' E r) (fun _ _ => False)) : AtS G W σ1 env1 us1 C1 n1 H1 t E :=
  ⟨k1, T.wp_mono h (fun r m _ z C' H' us' s' hu => z C' H' us' (s.trans s' hu1) fun a ha => (hu a ha).elim (hu1 a) fun e => .inr (s.back e)) fun _ _ _ z => z⟩
theorem AtS.ret {r : Fl} (h : AtS G W σ env us C n H (.ret r) E) {C' : Cf} {H' : Hp} {us' : List Addr} (s : Step us C H C' H') (hu : ∀ a ∈ us', a ∈ us ∨ H a = none) : FlP G W C' n H' us' E r := h.wp C' H' us' s hu
theorem AtS.ret0 {r : Fl} (h : AtS G W σ env us C n H (.ret r) E) : FlP G W C n H us E r := h.wp C H us (Step.refl _ _ _) fun a m => .inl m
theorem AtS.no (h : AtS G W σ env us C n H .fail E) : False := h.wp
/-- an expression, then k; what it raises is what the statement raises -/
theorem AtS.expr {α β : Type} {R : RR α β} {t : T α} {k : α → T Fl} (h : AtS G W σ env us C n H (t.bindX k fun e => .ret (.ex e env)) E) : At G W R σ env us C n H t (fun v H1 => ∃ C1 n1 d, Step [] C H C1 H1 ∧ R C1 H1 v d ∧ AtS G W σ env us C1 n1 H1 (k d) E) :=
  ⟨h.ok, T.wp_mono (T.wp_bindX h.wp) (fun a m _ z C' H' v s w r => ⟨C', m, a, s, r, AtS.after h.ok s w z⟩)
    (fun e m _ z C' H' cls dx s w r => (z C' H' us (s.up (by simp)) fun a ha => .inl ha) σ cls dx (h.ok.q s w) r)⟩
end
section
variable {G : GC} {W : WX} {σ : St} {env : Env} {us : List Addr} {C : Cf} {n : Nat} {H : Hp} {E : Ends}
theorem AtS.exprW {α β : Type} {R : RR α β} {t : T α} {k : α → T Fl} (h : AtS G W σ env us C n H (t.bindX k fun e => .ret (.ex e env)) E) : At G W R σ env us C n H t (fun v H1 => ∃ C1 n1 d, Step [] C H C1 H1 ∧ R C1 H1 v d ∧ Ok G C1 n1 σ env us H1 ∧
    (k d).wp n1 (fun r n' => ∀ C' H' us', Step us C H C' H' → (∀ a ∈ us', a ∈ us ∨ H a = none) → FlP G W C' n' H' us' E r) (fun _ _ => False)) :=
  ⟨h.ok, T.wp_mono (T.wp_bindX h.wp) (fun a m _ z C' H' v s w r => ⟨C', m, a, s, r, h.ok.q s w, z⟩)
    (fun e m _ z C' H' cls dx s w r => (z C' H' us (s.up (by simp)) fun a ha => .inl ha) σ cls dx (h.ok.q s w) r)⟩
end
def seqS (m k : Env → T Fl) : Env → T Fl := fun env => (m env).bind fun r => match r with
  | .nx env' => k env'
  | r => .ret r
def nxS : Env → T Fl := fun env => .ret (.nx env)
/-- an expression and what is done with it -/
def exS {α : Type} (m : Env → T α) (k : α → Env → T Fl) : Env → T Fl := fun env => (m env).bindX (fun d => k d env) fun e => .ret (.ex e env)
def asgS (i : Nat) (m : Env → T D) : Env → T Fl := exS m fun d env => .ret (.nx (env.set i (some (.fz d))))
def dropS (m : Env → T D) : Env → T Fl := exS m fun _ env => .ret (.nx env)
def retS (m : Env → T D) : Env → T Fl := exS m fun d _ => .ret (.rt d)
def ifS (t : Env → T Bool) (m k : Env → T Fl) : Env → T Fl := exS t fun b env => if b = true then m env else k env
def tgtS (pt : Pt) (m : Env → T D) : Env → T Fl := exS m fun d env => match putP pt d env with
  | some env' => .ret (.nx env')
  | none => .fail
section
variable {X : Cx} {G : GC} {W : WX} {b : Bool} {m k : Env → T Fl} {me : Env → T D} {mt : Env → T Bool} {e a c : Expr} {st : Stmt} {rest ss ss' : List Stmt} {pos : Pos}
theorem ss_nil : PSs X [] (tS G W nxS) := PSs.imp pss_nil fun E σ H h => by
  obtain ⟨C, n, env, us, h⟩ := h
  exact h.ret0 σ h.ok
theorem seq_read {E : Ends} {σ : St} {H : Hp} (h : tS G W (seqS m k) E σ H) : tSeq (tS G W m) (tS G W k) E σ H := by
  obtain ⟨C, n, env, us, h⟩ := h
  refine ⟨C, n, env, us, h.ok, T.wp_mono (T.wp_bind h.wp) (fun r n' _ z C' H' us' s hu => ?_) (fun _ _ _ z => z)⟩
  cases r with
  | nx env' => exact fun σ' ok' => ⟨C', n', env', us', AtS.afterS s hu ok' z⟩
  | rt d => exact z C' H' us' s hu
  | bk env' => exact z C' H' us' s hu
  | ct env' => exact z C' H' us' s hu
  | ex e env' => exact z C' H' us' s hu
  | ro o => exact z C' H' us' s hu
theorem ss_cons (h : PS X st (tS G W m)) (r : PSs X rest (tS G W k)) : PSs X (st :: rest) (tS G W (seqS m k)) := PSs.imp (pss_cons h r) fun E σ H h => seq_read h
theorem ss_one (h : PS X st (tS G W m)) : PSs X [st] (tS G W m) := pss_one h
theorem st_asg {i : Nat} {x : Str} {p : Pos} (hg : PG X (.Name x p) (gName i)) (he : PE X e (tQ G W false me))
    (hs : swapsWithSole [.Name x p] e pos.line X.env = pure false := by rfl) (hw : swappedStores [.Name x p] e X.env = pure none := by rfl) (h1 : (assignEach [.Name x p] X.env).map (·.2) = [assign (.Name x p) X.env] := by rfl) : PS X (.Assign [.Name x p] e pos) (tS G W (asgS i me)) := by
  refine PS.imp (ps_asg he hg hs hw h1) fun E σ H h => ?_
  obtain ⟨C, n, env, us, h⟩ := h
  refine ⟨C, n, env, us, (h.expr (R := rV G false)).imp ?_⟩
  rintro v H1 ⟨C1, n1, d, s1, r1, h1⟩
  obtain ⟨us', k1, sb⟩ := h1.ok.put r1.unview i
  exact h1.ret (Step.refl _ _ _) (fun a m => .inl (sb a m)) _ k1
theorem st_asgC {i : Nat} {y : Str} {py : Pos} {elt tg iter : Expr} {ifs : List Expr} {scope : Scope} {own : List (Str × Nat)} {cpos spos : Pos} {it : Env → T (List D)} {pt : Pt} {tt : Env → T Bool} (hk : X.K = G.K) (hc : X.calm = true) (hN : X.N.Nodup) (hy : X.N[i]? = some y) (hyl : X.env.scope.names.lookup y = some .local)
    (hsw : swapsWith (.ListComp elt [⟨tg, iter, ifs, 0⟩] scope cpos) (some (.Name y py)) spos.line X.env = pure true) (hi : PI X tg iter (tI G W it)) (ok : BlkOk X.N X.env.scope scope own) (hown : ∀ j ∈ pt.slots, j ∈ own.map (·.2))
    (hg : ∀ (s : Shared) (H : Hp) (C : Addr) (cl : List (Str × Addr)) (fp : List Addr), PG (X.blk s H scope (compEnvC scope cl C X.env) fp) tg (gP X.K pt)) (ht : ∀ (s : Shared) (H : Hp) (C : Addr) (cl : List (Str × Addr)) (fp : List Addr), PTs (X.blk s H scope (compEnvC scope cl C X.env) fp) ifs (tT G W0 tt))
    (he : ∀ (s : Shared) (H : Hp) (C : Addr) (cl : List (Str × Addr)) (fp : List Addr), PE (X.blk s H scope (compEnvC scope cl C X.env) fp) elt (tQ G W0 false me)) (hs : ∀ x, foldedSetIterable iter X.env x = pure x := by intro _; rfl) :
    PS X (.Assign [.Name y py] (.ListComp elt [⟨tg, iter, ifs, 0⟩] scope cpos) spos) (tS G W (asgS i (qComp it pt (own.map (·.2)) tt me))) := by
  refine PS.imp (ps_setLc hc hN hy hyl hsw hi ok hg ht he hs) fun E σ H h => comp_read hk hown ?_
  obtain ⟨C, n, env, us, h⟩ := h
  refine ⟨C, n, env, us, (h.expr (R := rV G false)).imp ?_⟩
  rintro v H1 ⟨C1, n1, d, s1, r1, h1⟩
  obtain ⟨us', k1, sb⟩ := h1.ok.put r1.unview i
  exact h1.ret (Step.refl _ _ _) (fun a m => .inl (sb a m)) _ k1
/-- a, b = e (a tuple) -/
theorem st_tgt {pt : Pt} {tg : Expr} (hk : X.K = G.K) (he : PE X e (tQ G W false me)) (hg : PG X tg (gP X.K pt)) (hs : swapsWithSole [tg] e pos.line X.env = pure false := by rfl) (hw : swappedStores [tg] e X.env = pure none := by rfl) (h1 : (assignEach [tg] X.env).map (·.2) = [assign tg X.env] := by rfl) :
    PS X (.Assign [tg] e pos) (tS G W (tgtS pt me)) := by
  refine PS.imp (ps_asg he hg hs hw h1) fun E σ H h => ?_
  obtain ⟨C, n, env, us, h⟩ := h
  refine ⟨C, n, env, us, (h.expr (R := rV G false)).imp ?_⟩
  rintro v H1 ⟨C1, n1, d, s1, r1, h1⟩
  dsimp only at h1
  cases ep : putP pt d env with
  | none => rw [ep] at h1; exact h1.no.elim
  | some env' =>
    rw [ep] at h1
    exact gP_ok hk h1.ok r1.unview ep fun σ' us' ok' sb _ => h1.ret (Step.refl _ _ _) (fun a m => .inl (sb a m)) _ ok'
theorem st_ret (he : PE X e (tQ G W false me)) : PS X (.Return (some e) pos) (tS G W (retS me)) := by
  refine PS.imp (ps_ret he) fun E σ H h => ?_
  obtain ⟨C, n, env, us, h⟩ := h
  refine ⟨C, n, env, us, (h.expr (R := rV G false)).imp ?_⟩
  rintro v H1 ⟨C1, n1, d, s1, r1, h1⟩
  exact h1.ret0 v h1.ok.wf r1.unview
theorem st_if (hc : PT X c (tT G W mt)) (ha : PSs X ss (tS G W m)) (hb : PSs X ss' (tS G W k)) : PS X (.If c ss ss' pos) (tS G W (ifS mt m k)) := by
  refine PS.imp (ps_if hc ha hb) fun E σ H h => ?_
  obtain ⟨C, n, env, us, h⟩ := h
  refine ⟨C, n, env, us, (h.expr (R := rB)).imp ?_⟩
  rintro v H1 ⟨C1, n1, d, s1, r1, h1⟩
  have r1 : v = d := r1
  subst r1
  cases v with
  | true => exact iteT ⟨C1, n1, env, us, h1⟩
  | false => exact iteF ⟨C1, n1, env, us, h1⟩
end
def forL (pt : Pt) (m : Env → T Fl) : List D → Env → T Fl
  | [], env => .ret (.nx env)
  | d :: ds, env => match putP pt d env with
    | none => .fail
    | some env' => (m env').bind fun r => match r with
      | .nx env2 => forL pt m ds env2
      | .ct env2 => forL pt m ds env2
      | .bk env2 => .ret (.nx env2)
      | r => .ret r
def forS (it : Env → T (List D)) (pt : Pt) (m : Env → T Fl) : Env → T Fl := exS it fun ds env => forL pt m ds env
section
variable {X : Cx} {G : GC} {W : WX} {m : Env → T Fl} {mt : Env → T Bool} {c tg iter : Expr} {body : List Stmt} {pos : Pos} {it : Env → T (List D)} {pt : Pt}
theorem st_for (hk : X.K = G.K) (hp : PassesOwn (model X.prog X.w) X.A X.env X.xe) (hc : X.calm = true) (hi : PI X tg iter (tI G W it)) (hg : PG X tg (gP X.K pt)) (hb : PSs X body (tS G W m))
    (hs : ∀ x, foldedSetIterable iter X.env x = pure x := by intro _; rfl) : PS X (.For tg iter body [] pos) (tS G W (forS it pt m)) := by
  refine PS.imp (ps_for hp hc hi hg hb hs) fun E σ H h => ?_
  obtain ⟨C, n, env, us, h⟩ := h
  refine ⟨C, n, env, us, (h.expr (R := rJ G)).imp ?_⟩
  rintro J H1 ⟨C1, n1, ds, s1, y1, h1⟩
  refine ⟨fun i mm σi Hi => mm = ds.length - i ∧ i ≤ ds.length ∧ ∃ Ci ni envi usi, Step us C1 H1 Ci Hi ∧ (∀ a ∈ usi, a ∈ us ∨ H1 a = none) ∧ AtS G W σi envi usi Ci ni Hi (forL pt m (ds.drop i) envi) E, ⟨ds.length, by simp, Nat.zero_le _, C1, n1, env, us, Step.refl _ _ _, fun a z => .inl z, by rw [List.drop_zero]; exact h1⟩, ?_⟩
  rintro i mm σi Hi ⟨rfl, hi, Ci, ni, envi, usi, si, hui, hA⟩
  by_cases hlt : i < ds.length
  · have ei : ds[i]? = some ds[i] := List.getElem?_eq_getElem hlt
    obtain ⟨go, yl⟩ := y1.go Ci Hi si.nx i _ ei
    refine .inr ⟨go, fun σn Hn => i < ds.length ∧ ∃ Ci ni envi usi, Step us C1 H1 Ci Hn ∧ (∀ a ∈ usi, a ∈ us ∨ H1 a = none) ∧ AtS G W σn envi usi Ci ni Hn (forL pt m (ds.drop (i + 1)) envi) E, fun σ' H' p => ⟨ds.length - (i + 1), by omega, rfl, p.1, p.2⟩, fun x H' y => ?_⟩
    obtain ⟨sy, wy, ry⟩ := yl x H' y
    have oky := hA.ok.q sy (wy _ hA.ok.wf)
    have wpi := (AtS.after hA.ok sy (wy _ hA.ok.wf) hA.wp).wp
    rw [List.drop_eq_getElem_cons hlt] at wpi
    unfold forL at wpi
    cases ep : putP pt ds[i] envi with
    | none => rw [ep] at wpi; exact False.elim wpi
    | some env' =>
      rw [ep] at wpi
      refine gP_ok hk oky ry ep fun σ' us' ok' sub' _ => ⟨Ci, ni, env', us', ok', ?_⟩
      refine T.wp_mono (T.wp_bind wpi) (fun r nr _ wr Cr Hr ur sr hur => ?_) (fun _ _ _ z => z)
      have siy : Step us C1 H1 Ci H' := si.trans sy (by simp)
      have sr' : Step usi Ci H' Cr Hr := sr.up sub'
      have hur' : ∀ a ∈ ur, a ∈ usi ∨ H' a = none := fun a ma => (hur a ma).elim (fun z => .inl (sub' a z)) .inr
      have s2 : Step us C1 H1 Cr Hr := siy.trans sr' hui
      have hu2 : ∀ a ∈ ur, a ∈ us ∨ H1 a = none := fun a ma => (hur' a ma).elim (hui a) fun z => .inr (siy.back z)
      have next : ∀ envr σr, Ok G Cr nr σr envr ur Hr → T.wp (forL pt m (ds.drop (i + 1)) envr) nr _ _ → (i < ds.length ∧ ∃ Ci ni envi usi, Step us C1 H1 Ci Hr ∧ (∀ a ∈ usi, a ∈ us ∨ H1 a = none) ∧ AtS G W σr envi usi Ci ni Hr (forL pt m (ds.drop (i + 1)) envi) E) :=
        fun envr σr okr w => ⟨hlt, Cr, nr, envr, ur, s2, hu2, AtS.afterS sr' hur' okr w⟩
      cases r with
      | nx envr => exact fun σr okr => next envr σr okr wr
      | ct envr => exact fun σr okr => next envr σr okr wr
      | bk envr => exact fun σr okr => wr Cr Hr ur sr' hur' σr okr
      | rt d => exact wr Cr Hr ur sr' hur'
      | ro o => exact wr Cr Hr ur sr' hur'
      | ex e envr => exact wr Cr Hr ur sr' hur'
  · have e : i = ds.length := by omega
    subst e
    refine .inl ⟨y1.stop Ci Hi si.nx, ?_⟩
    rw [List.drop_length] at hA
    exact AtS.ret0 (r := .nx envi) hA σi hA.ok
end
end Pu
set_option Elab.async false
set_option linter.all false
set_option maxRecDepth 100000
set_option maxHeartbeats 4000000
namespace Pu
open PySem L2 Stp NdefX
open PyProof.Rows hiding St
/-- the promise of a def that runs as m -/
def spM (G : GC) (np : Nat) (m : List D → T D) : Sp := fun vs H Q E => ∃ C n ds, Wf G C n H ∧ RepL G C H vs ds ∧ ds.length = np ∧
  (m ds).wp n (fun d n' => ∀ C' H' v, Step [] C H C' H' → Wf G C' n' H' → Rep G C' H' v d → Q v H') (fun e n' => ∀ C' H' cls dx, Step [] C H C' H' → Wf G C' n' H' → RepX G cls dx e → E cls dx H')
def endF : Fl → T D
  | .rt d => .ret d
  | .nx _ => .ret .non
  | .ex e _ => .ex e
  | _ => .fail
def startE (nN : Nat) (ds : List D) : Env := ds.map (fun d => some (.fz d)) ++ List.replicate (nN - ds.length) none
def runF (nN : Nat) (m : Env → T Fl) (ds : List D) : T D := (m (startE nN ds)).noX.bind endF
section
variable {G : GC} {C : Cf} {H : Hp}
theorem EnvR.nones : ∀ (k : Nat) (σ : St), σ.length = k → EnvR G C H σ (List.replicate k none) []
  | 0, [], _ => .nil
  | k + 1, s :: σ, h => .skip (EnvR.nones k σ (Nat.succ.inj h))
theorem EnvR.start (k : Nat) : ∀ {vs : List V} {ds : List D}, RepL G C H vs ds → EnvR G C H (vs.map some ++ List.replicate k none) (ds.map (fun d => some (.fz d)) ++ List.replicate k none) []
  | _, _, .nil => EnvR.nones k _ (List.length_replicate ..)
  | _, _, .cons r l => .has (us1 := []) (.fz r) (EnvR.start k l)
theorem sp_read {N : List Str} {np : Nat} {m : Env → T Fl} {vs : List V} {Q : VK} {E : XK} (h : spM G np (runF N.length m) vs H Q E) : tS G (fun cls d _ H => E cls d H) m { nx := fun _ H' => Q .non H', rt := Q } (L2.start N vs) H := by
  obtain ⟨C, n, ds, wf, rl, hl, w⟩ := h
  have er : EnvR G C H (L2.start N vs) (startE N.length ds) [] := by
    unfold L2.start startE
    rw [rl.length]
    exact EnvR.start _ rl
  refine ⟨C, n, startE N.length ds, [], ⟨wf, er, List.nodup_nil, fun a m => absurd m (by simp)⟩, ?_⟩
  refine T.wp_mono (T.wp_noX (E' := fun _ _ => False) (T.wp_bind w)) (fun r n' _ z C' H' us' s hu => ?_) (fun e n' _ z => z)
  · cases r with
    | nx env => exact fun σ ok => z C' H' .non s ok.wf .non
    | rt d => exact fun v wf' rv => z C' H' v s wf' rv
    | ro o => exact False.elim z
    | bk env => exact False.elim z
    | ct env => exact False.elim z
    | ex e env => exact fun σ cls dx ok rx => z C' H' cls dx s ok.wf rx
end
section
variable {P : Program} {w : World} {K : PySem.W.Frag} {mg : Str → Option Value} {base : Heap} {G : GC}
theorem spM_len {np : Nat} {m : List D → T D} {vs : List V} {H : Hp} {Q : VK} {E : XK} (h : spM G np m vs H Q E) : vs.length = np := by
  obtain ⟨C, n, ds, wf, rl, hl, _⟩ := h
  rw [rl.length, hl]
/-- a def by its body -/
theorem fn_ok {x qual : Str} {st : Stmt} {f : Addr} {fd : FuncData} {N ps : List Str} {k : Nat} {m : Env → T Fl} (F : Fun K x qual st f fd) (S : FnScope N ps (defScope st))
    (hb : ∀ (cdv : Value) (A : Around) (outer : List PySem.Env) (s : Shared) (H : Hp) (E : XK), Room k (A.deeper (envOfC qual (defScope st) s.heap.objs.size f cdv)) →
      PSs (cxOf (L2.CX P w) P w K mg base N qual (defScope st) f cdv A outer s H E) (defBody st) (tS G (fun cls d _ H => E cls d H) m)) : FnOk P w K mg base (L2.CX P w) (k + 1) f fd ps (spM G ps.length (runF N.length m)) :=
  F.okX S (fun vs H Q E h => spM_len h) fun cdv A outer s H vs Q E hr h => ⟨_, hb cdv A outer s H E hr, sp_read h⟩
end
section
variable {X : Cx} {G : GC} {W : WX} {k : Nat} {f : Addr} {fd : FuncData} {ps : List Str} {x : Str} {p pos : Pos} {e : Expr} {es : List Expr} {ma : Env → T (List D)} {mf : List D → T D}
theorem call_read {np : Nat} {σ : St} {H : Hp} {Q : VK} (hn : ∀ ds, (mf ds).wp 0 (fun _ _ => True) (fun _ _ => True) → ds.length = np ∨ True) (h : tQ G W false (qN (fun ds => grd (ds.length = np) (mf ds)) ma) σ H Q) : tCallS (spM G np mf) (WE W) (tA G W false ma) σ H Q := by
  obtain ⟨C, n, env, us, h⟩ := h
  refine ⟨C, n, env, us, (h.bind (R := rA G false)).imp ?_⟩
  rintro vs H1 ⟨C1, n1, ds, s1, r1, h1⟩
  obtain ⟨hl, h1⟩ := h1.grd
  refine ⟨C1, n1, ds, h1.ok.wf, r1.nx (Nx.unview _ _), hl, T.wp_mono h1.wp (fun d n' _ z C' H' v s w r => z C' H' v s w (r.view false)) (fun e n' _ z C' H' cls dx s w r => z C' H' cls dx s w r)⟩
/-- f(..) of a def -/
theorem s_call (tk : Takes X W) (F : FnOk X.prog X.w X.K X.mg X.base (L2.CX X.prog X.w) k f fd ps (spM G ps.length mf)) (hr : Room k X.A) (hg : Gl X x) (hm : X.mg x = some (.ref f)) (hk : PySem.W.keepIn X.K (.ref f) = true) (hb : Binds X.K fd ps [])
    (ha : PA X (e :: es) (tA G W false ma)) (hdb : (x == ("__debug__" : Str)) = false := by decide) (he : starEach (e :: es) X.env = (false, eval e X.env) :: starEach es X.env := by rfl) (hpl : (backTo pos (starEach es X.env)).any (·.1) = false := by rfl) :
    PE X (.Call (.Name x p) (e :: es) [] pos) (tQ G W false (qN (fun ds => grd (ds.length = ps.length) (mf ds)) ma)) := PE.imp (pe_callS F hr hg hm hk hb (fun σ => passAt tk σ) ha hdb he hpl) fun σ H Q h => call_read (fun _ _ => .inr trivial) h
end
end Pu
set_option Elab.async false
set_option linter.all false
set_option maxRecDepth 100000
set_option maxHeartbeats 4000000
namespace Pu
open PySem L2 Stp NdefX
open PyProof.Rows hiding St
/-- a thing that was made behind H0 and is nobody else's -/
def rN (G : GC) (H0 : Hp) : RR O V := fun C H v o => ∃ us1, OwnR G C H v o us1 ∧ us1.Nodup ∧ ∀ a ∈ us1, ¬ C.F a ∧ a ∉ C.pa ∧ H0 a = none ∧ ∃ u, H a = some u ∧ noTbl u
def tN (G : GC) (W : WX) (m : Env → T O) : TE := fun σ H Q => ∃ C n env us, At G W (rN G H) σ env us C n H (m env) Q
def oQ (m : Env → T D) : Env → T O := fun env => (m env).bind fun d => .ret (.fz d)
def oL (m : Env → T (List D)) : Env → T O := fun env => (m env).bind fun ds => grd (ds.length ≤ big) (.ret (.ls ds))
theorem rN_ls {G : GC} {C C1 : Cf} {n : Nat} {H0 H1 : Hp} {p : Addr} {vs : List V} {ds : List D} (s : Step [] C H0 C1 H1) (w : Wf G C1 n H1) (hp : H1 p = none) (r : RepL G C1 H1 vs ds) : rN G H0 C1 (upd H1 p (.lst vs)) (.ref p) (.ls ds) := by
  refine ⟨[p], .ls upd_same (r.nx (step_tup hp).nx), by simp, fun a m => ?_⟩
  rw [List.mem_singleton.mp m]
  refine ⟨fun z => ?_, w.pne hp, s.back hp, _, upd_same, fun _ z => nomatch z⟩
  obtain ⟨⟨o, e, _⟩, _⟩ := w.fz p z
  rw [hp] at e
  cases e
section
variable {X : Cx} {G : GC} {W : WX} {b : Bool} {m : Env → T D} {ma : Env → T (List D)} {mo mo' : Env → T O} {e : Expr} {es : List Expr} {pos : Pos}
theorem n_q (h : PE X e (tQ G W false m)) : PE X e (tN G W (oQ m)) := by
  refine PE.imp h fun σ H Q k => ?_
  obtain ⟨C, n, env, us, k⟩ := k
  refine ⟨C, n, env, us, (k.bind (R := rV G false)).imp ?_⟩
  rintro v H1 ⟨C1, n1, d, s1, r1, h1⟩
  exact h1.ret ⟨[], .fz r1.unview, by simp, fun a m => absurd m (by simp)⟩
theorem n_lst (h : PA X es (tA G W false ma)) : PE X (.List es pos) (tN G W (oL ma)) := by
  refine PE.imp (pe_lst h) fun σ H Q k => ?_
  obtain ⟨C, n, env, us, k⟩ := k
  refine ⟨C, n, env, us, (k.bind (R := rA G false)).imp ?_⟩
  rintro vs H1 ⟨C1, n1, ds, s1, r1, h1⟩
  obtain ⟨hl, h1⟩ := h1.grd
  refine ⟨by rw [r1.length]; exact Nat.le_trans hl (by decide), fun p hp => h1.retS (step_tup hp) (h1.ok.wf.tup hp) (rN_ls s1 h1.ok.wf hp (r1.nx (Nx.unview _ _)))⟩
end
section
variable {G : GC} {C : Cf} {n : Nat} {H : Hp}
theorem EnvR.putO {v : V} {o : O} {us1 : List Addr} (ro : OwnR G C H v o us1) : ∀ {σ : St} {env : Env} {us : List Addr} (i : Nat), EnvR G C H σ env us → ∃ us', EnvR G C H (σ.set i (some v)) (env.set i (some o)) us' ∧ ((us1 ++ us).Nodup → us'.Nodup) ∧ ∀ a ∈ us', a ∈ us1 ∨ a ∈ us
  | _, _, _, _, .nil => ⟨[], .nil, fun _ => by simp, fun a m => absurd m (by simp)⟩
  | _, _, us, 0, .skip r => ⟨us1 ++ us, .has ro r, id, fun a m => List.mem_append.mp m⟩
  | _, _, _, i + 1, .skip r => by
    obtain ⟨us', h1, h2, h3⟩ := EnvR.putO ro i r
    exact ⟨us', .skip h1, h2, h3⟩
  | _, _, _, 0, .has (us1 := u1) (us := us) _ r => ⟨us1 ++ us, .has ro r, fun nd => nd.sublist ((List.Sublist.refl us1).append (List.sublist_append_right u1 us)), fun a m => (List.mem_append.mp m).elim .inl fun z => .inr (List.mem_append_right _ z)⟩
  | _, _, _, i + 1, .has (us1 := u1) (us := us) q r => by
    obtain ⟨us', h1, h2, h3⟩ := EnvR.putO ro i r
    refine ⟨u1 ++ us', .has q h1, fun nd => ?_, fun a m => ?_⟩
    · have nd2 : (u1 ++ (us1 ++ us)).Nodup := by
        rw [← List.append_assoc]
        exact (List.perm_append_comm.append_right us).nodup (by rw [List.append_assoc]; exact nd)
      rw [List.nodup_append] at nd2 ⊢
      refine ⟨nd2.1, h2 nd2.2.1, fun a ha c hc => ?_⟩
      exact nd2.2.2 a ha c (by
        rcases h3 c hc with z | z
        · exact List.mem_append_left _ z
        · exact List.mem_append_right _ z)
    · rcases List.mem_append.mp m with z | z
      · exact .inr (List.mem_append_left _ z)
      · rcases h3 a z with z | z
        · exact .inl z
        · exact .inr (List.mem_append_right _ z)
theorem Ok.putO {σ : St} {env : Env} {us us1 : List Addr} {o : O} {v : V} (k : Ok G C n σ env us H) (ro : OwnR G C H v o us1) (nd : us1.Nodup) (h : ∀ a ∈ us1, ¬ C.F a ∧ a ∉ C.pa ∧ a ∉ us ∧ ∃ u, H a = some u ∧ noTbl u) (i : Nat) : ∃ us', Ok G C n (σ.set i (some v)) (env.set i (some o)) us' H ∧ ∀ a ∈ us', a ∈ us1 ∨ a ∈ us := by
  obtain ⟨us', h1, h2, h3⟩ := k.env.putO ro i
  refine ⟨us', ⟨k.wf, h1, h2 ?_, fun a m => ?_⟩, h3⟩
  · rw [List.nodup_append]
    exact ⟨nd, k.nd, fun a ha c hc z => (h a ha).2.2.1 (by rw [z]; exact hc)⟩
  · rcases h3 a m with z | z
    · exact ⟨(h a z).1, (h a z).2.1, (h a z).2.2.2⟩
    · exact k.us a z
end
def asgO (i : Nat) (m : Env → T O) : Env → T Fl := exS m fun o env => .ret (.nx (env.set i (some o)))
def parO (i j : Nat) (m k : Env → T O) : Env → T Fl := exS (fun env => (m env).bind fun a => (k env).bind fun b => .ret (a, b)) fun p env => .ret (.nx ((env.set i (some p.1)).set j (some p.2)))
section
variable {X : Cx} {G : GC} {W : WX} {mo mk : Env → T O} {e a c : Expr} {pos : Pos}
theorem own_new {C C1 : Cf} {n n1 : Nat} {H H1 : Hp} {σ : St} {env : Env} {us : List Addr} {v : V} {o : O} (k : Ok G C n σ env us H) (k1 : Ok G C1 n1 σ env us H1) (r : rN G H C1 H1 v o) (i : Nat) : ∃ us', Ok G C1 n1 (σ.set i (some v)) (env.set i (some o)) us' H1 ∧ ∀ a ∈ us', a ∈ us ∨ H a = none := by
  obtain ⟨us1, ro, nd, hu⟩ := r
  have nu : ∀ a ∈ us1, a ∉ us := fun a m z => by
    obtain ⟨_, _, u, e, _⟩ := k.us a z
    rw [(hu a m).2.2.1] at e
    cases e
  obtain ⟨us', k2, h2⟩ := k1.putO ro nd (fun a m => ⟨(hu a m).1, (hu a m).2.1, nu a m, (hu a m).2.2.2⟩) i
  exact ⟨us', k2, fun a m => (h2 a m).elim (fun z => .inr (hu a z).2.2.1) .inl⟩
theorem st_asgO {i : Nat} {x : Str} {p : Pos} (hg : PG X (.Name x p) (gName i)) (he : PE X e (tN G W mo))
    (hs : swapsWithSole [.Name x p] e pos.line X.env = pure false := by rfl) (hw : swappedStores [.Name x p] e X.env = pure none := by rfl) (h1 : (assignEach [.Name x p] X.env).map (·.2) = [assign (.Name x p) X.env] := by rfl) : PS X (.Assign [.Name x p] e pos) (tS G W (asgO i mo)) := by
  refine PS.imp (ps_asg he hg hs hw h1) fun E σ H h => ?_
  obtain ⟨C, n, env, us, h⟩ := h
  refine ⟨C, n, env, us, (h.exprW (R := rN G H)).imp ?_⟩
  rintro v H1 ⟨C1, n1, o, s1, r1, k1, w1⟩
  obtain ⟨us', k2, sb⟩ := own_new h.ok k1 r1 i
  exact w1 C1 H1 us' (s1.up (by simp)) sb _ k2
/-- x, y = e1, e2: two different local names -/
theorem st_parO {i j : Nat} {x y : Str} {px py pt : Pos} {kt k2 pt2} (hc : X.calm = true) (hN : X.N.Nodup) (hi : X.N[i]? = some x) (hj : X.N[j]? = some y) (hij : i ≠ j)
    (hx : X.env.scope.names.lookup x = some .local) (hy : X.env.scope.names.lookup y = some .local) (ha : PE X a (tN G W mo)) (hb : PE X c (tN G W mk))
    (hw : swappedStores [.Tuple [.Name x px, .Name y py] kt pt] (.Tuple [a, c] k2 pt2) X.env = pure (some [x, y]))
    (hs : swapsWithSole [.Tuple [.Name x px, .Name y py] kt pt] (.Tuple [a, c] k2 pt2) pos.line X.env = pure false := by rfl) (hs1 : starEach [a, c] X.env = (false, eval a X.env) :: starEach [c] X.env := by rfl) (hs2 : starEach [c] X.env = (false, eval c X.env) :: starEach [] X.env := by rfl) :
    PS X (.Assign [.Tuple [.Name x px, .Name y py] kt pt] (.Tuple [a, c] k2 pt2) pos) (tS G W (parO i j mo mk)) := by
  refine PS.imp (ps_par hc hN hi hj hij hx hy (pa_cons ha (pa_cons hb pa_nil hs2) hs1) hw hs) fun E σ H h => ?_
  obtain ⟨C, n, env, us, h⟩ := h
  refine ⟨C, n, env, us, h.ok, T.wp_mono (T.wp_bind (T.wp_bindX h.wp)) ?_ ?_⟩
  · intro o1 n1 _ z C1 H1 v1 s1 w1 r1
    have k1 := h.ok.q s1 w1
    refine ⟨C1, n1, env, us, k1, T.wp_mono (T.wp_bind z) ?_ ?_⟩
    · intro o2 n2 _ z2 C2 H2 v2 s2 w2 r2
      have k2 := k1.q s2 w2
      have s12 := s1.trans s2 (by simp)
      obtain ⟨us1, ro1, nd1, hu1⟩ := r1
      have keep : ∀ a ∈ us1, ∀ u, H1 a = some u → H2 a = some u := fun a m u e => by
        obtain ⟨_, q2, _, u', e', t⟩ := hu1 a m
        rw [e] at e'
        cases e'
        exact s2.kp a u e t (by simp) q2
      have c1 : ∀ a ∈ us1, ¬ C2.F a ∧ a ∉ C2.pa ∧ a ∉ us ∧ ∃ u, H2 a = some u ∧ noTbl u := fun a m => by
        obtain ⟨q1, q2, q3, u, e, t⟩ := hu1 a m
        refine ⟨fun z => ?_, fun z => ?_, fun z => ?_, u, keep a m u e, t⟩
        · rcases s2.fn a z with z | z | z
          · exact q1 z
          · cases z
          · rw [e] at z; cases z
        · rcases s2.pf a z with z | z
          · exact q2 z
          · rw [e] at z; cases z
        · obtain ⟨_, _, u', e', _⟩ := h.ok.us a z
          rw [q3] at e'; cases e'
      obtain ⟨us2, ro2, nd2, hu2⟩ := r2
      obtain ⟨us3, k3, h3⟩ := k2.putO (ro1.nx s2.nx s2.me keep) nd1 c1 i
      have nu : ∀ a ∈ us2, a ∉ us3 := fun a m z => by
        have q3 := (hu2 a m).2.2.1
        rcases h3 a z with y | y
        · obtain ⟨_, _, _, u', e', _⟩ := hu1 a y
          rw [q3] at e'; cases e'
        · obtain ⟨_, _, u', e', _⟩ := k1.us a y
          rw [q3] at e'; cases e'
      obtain ⟨us4, k4, h4⟩ := k3.putO ro2 nd2 (fun a m => ⟨(hu2 a m).1, (hu2 a m).2.1, nu a m, (hu2 a m).2.2.2⟩) j
      refine ⟨v1, v2, rfl, ?_⟩
      exact z2 C2 H2 us4 (s12.up (by simp)) (fun a m => (h4 a m).elim (fun z => .inr (s1.back (hu2 a z).2.2.1)) fun y => (h3 a y).elim (fun z => .inr (hu1 a z).2.2.1) .inl) _ k4
    · intro e2 n2 _ z2 C2 H2 cls dx s2 w2 rx
      exact z2 C2 H2 us ((s1.trans s2 (by simp)).up (by simp)) (fun a m => .inl m) σ cls dx (k1.q s2 w2) rx
  · intro e1 n1 _ z C1 H1 cls dx s1 w1 rx
    exact z C1 H1 us (s1.up (by simp)) (fun a m => .inl m) σ cls dx (h.ok.q s1 w1) rx
end
/-- what a slot owns changes its place's object -/
theorem EnvR.mutO {G : GC} {C : Cf} {H H' : Hp} {o o' : O} {p : Addr} {v0 : V} (nx : Nx C C H H') (kp : ∀ a, a ≠ p → ∀ u, H a = some u → H' a = some u) : ∀ {σ : St} {env : Env} {us : List Addr} {i : Nat}, EnvR G C H σ env us → us.Nodup → σ[i]? = some (some v0) → env[i]? = some (some o) → (∀ us1, OwnR G C H v0 o us1 → p ∈ us1 ∧ OwnR G C H' v0 o' us1) → EnvR G C H' σ (env.set i (some o')) us
  | _, _, _, _, .nil, _, _, e, _ => by simp at e
  | _, _, _, 0, .skip _, _, _, e, _ => by simp at e
  | _, _, _, i + 1, .skip r, nd, f, e, h => .skip (EnvR.mutO nx kp (i := i) r nd (by simpa using f) (by simpa using e) h)
  | _, _, _, 0, .has (us1 := u1) (us := us) q r, nd, f, e, h => by
    simp at e f
    subst e f
    obtain ⟨hp, q'⟩ := h _ q
    rw [List.nodup_append] at nd
    exact .has q' (r.nx nx rfl fun a m u e => kp a (fun z => nd.2.2 p hp a m z.symm) u e)
  | _, _, _, i + 1, .has (v := v) (o := o2) (us1 := u1) (us := us) q r, nd, f, e, h => by
    rw [List.nodup_append] at nd
    have ih := EnvR.mutO nx kp (i := i) r nd.2.1 (by simpa using f) (by simpa using e) h
    obtain ⟨v3, us3, f3, q3, m3⟩ := r.at (i := i) (o := o) (by simpa using e)
    have ev : v3 = v0 := by
      simp at f
      rw [f3] at f
      injection f with f
      injection f
    subst ev
    have hp : p ∈ us := m3 p (h us3 q3).1
    exact .has (q.nx nx rfl fun a m u e => kp a (fun z => nd.2.2 a m p hp z) u e) ih
section
variable {G : GC} {C : Cf} {n : Nat} {H : Hp} {σ : St} {env : Env} {us : List Addr} {i : Nat}
/-- the object that a slot owns is replaced -/
theorem Ok.mutA {o o' : O} {u u' : HO} {a : Addr} (k : Ok G C n σ env us H) (f : σ[i]? = some (some (.ref a))) (e : env[i]? = some (some o)) (ma : a ∈ us) (hp : H a = some u) (h1 : ∀ xs, u ≠ .tup xs) (h2 : ∀ x y, u ≠ .frz x y) (h3 : ∀ φ, u = .ext φ → ¬ Keep a φ) (t' : noTbl u')
    (h : Nx C C H (upd H a u') → ∀ us1, OwnR G C H (.ref a) o us1 → a ∈ us1 ∧ OwnR G C (upd H a u') (.ref a) o' us1) : Ok G C n σ (env.set i (some o')) us (upd H a u') ∧ Step us C H C (upd H a u') := by
  obtain ⟨nf, np, w, e1, t⟩ := k.us a ma
  rw [hp] at e1
  cases e1
  have ne : ∀ b w, H b = some w → w ≠ u → upd H a u' b = some w := fun b w h d => by
    rw [upd_ne (fun z => d (by rw [z, hp] at h; exact (Option.some.inj h).symm))]
    exact h
  have nx : Nx C C H (upd H a u') := ⟨fun b w f h _ => ⟨f, by rw [upd_ne (fun z => nf (by rw [← z]; exact f))]; exact h⟩, (fun b xs h => ne b _ h fun z => h1 xs z.symm), (fun b w x h => ne b _ h fun z => h2 w x z.symm), (fun b φ h k => by
    by_cases e : b = a
    · rw [e] at h k; rw [hp] at h; exact absurd k (h3 φ (Option.some.inj h))
    · rw [upd_ne e]; exact h), fun _ h => h⟩
  have kp : ∀ b, b ≠ a → ∀ w, H b = some w → upd H a u' b = some w := fun b hb w h => by rw [upd_ne hb]; exact h
  refine ⟨⟨k.wf.mut hp nf np t h3, EnvR.mutO nx kp k.env k.nd f e (h nx), k.nd, fun b m => ?_⟩, fun b w q _ nu _ => ?_, fun b w q => ?_, nx, fun b z => .inl z, fun b z => .inl z, rfl⟩
  · obtain ⟨q1, q2, w, q3, q4⟩ := k.us b m
    refine ⟨q1, q2, ?_⟩
    by_cases hb : b = a
    · rw [hb]
      exact ⟨u', upd_same, t'⟩
    · exact ⟨w, kp b hb w q3, q4⟩
  · exact kp b (fun z => nu (by rw [z]; exact ma)) w q
  · by_cases hb : b = a
    · rw [hb]
      exact ⟨u', upd_same⟩
    · exact ⟨w, kp b hb w q⟩
/-- the list of a slot -/
theorem Ok.atLs {ds : List D} (k : Ok G C n σ env us H) (e : env[i]? = some (some (.ls ds))) : ∃ a vs, σ[i]? = some (some (.ref a)) ∧ H a = some (.lst vs) ∧ RepL G C H vs ds ∧ a ∈ us ∧ a ∉ C.pa := by
  obtain ⟨v, us1, h1, h2, h3⟩ := k.env.at e
  cases h2 with
  | @ls a vs _ hp l => exact ⟨a, vs, h1, hp, l, h3 a (List.mem_singleton.mpr rfl), (k.us a (h3 a (List.mem_singleton.mpr rfl))).2.1⟩
theorem Ok.setLs {ds ds' : List D} {vs vs' : List V} {a : Addr} (k : Ok G C n σ env us H) (f : σ[i]? = some (some (.ref a))) (e : env[i]? = some (some (.ls ds))) (hp : H a = some (.lst vs)) (ma : a ∈ us) (r' : RepL G C H vs' ds') :
    Ok G C n σ (env.set i (some (.ls ds'))) us (upd H a (.lst vs')) ∧ Step us C H C (upd H a (.lst vs')) :=
  k.mutA f e ma hp (fun _ z => by cases z) (fun _ _ z => by cases z) (fun _ z => by cases z) (fun _ z => by cases z) fun nx us1 q => by
    cases q with
    | ls hq lq => exact ⟨List.mem_singleton.mpr rfl, .ls upd_same (r'.nx nx)⟩
end
end Pu
set_option Elab.async false
set_option linter.all false
set_option maxRecDepth 100000
set_option maxHeartbeats 4000000
namespace Pu
open PySem L2 Stp NdefX PyProof PySem.AutoSeq1
open PyProof.Rows hiding St
theorem ext_tuple (l : Addr) (items : Array Value) (n : Nat) (b : Addr) (od : Option Addr) (sl : Array (Option Value)) (items2 : Array Value) (n2 : Nat) (hs0 : ¬(!items.isEmpty && Builtin.List.listTooLong (items.size + items2.size)) = true) (hs1 : items.size ≤ sizeLine) (hs2 : items.size + items2.size ≤ sizeLine + 1) :
    Meets (Builtin.«list.extend» ⟨[.ref l, .ref b], []⟩) (fun _ R s => s.heap.get? l = some { cls := .type "list", dict := none, data := .seq items n, slots := #[] } ∧ s.heap.get? b = some { cls := .type "tuple", dict := od, data := .seq items2 n2, slots := sl } ∧ R (.ok (.ret Value.none)) { s with heap := s.heap.update l (Obj.mapSeq fun x => x ++ items2), toks := s.toks }) :=
  .of_wp fun prog w A R s h => by
    obtain ⟨hp, g, d, tk, os⟩ := s; obtain ⟨hl, hb, h⟩ := h
    have f1 := idx_int
    have f2 := AutoSeq1.sub_tuple_tuple
    have f3 := AutoSeq1.sub_list_list
    have f4 := AutoSeq1.sub_tuple_list
    have f5 := AutoSeq1.sub_list_tuple
    have hz' : (items ++ items2).size ≤ sizeLine + 1 := by rw [Array.size_append]; exact hs2
    wp_walk using (wpAny_updateSeq hl rfl (hz := hs1) (_hz' := hz')), wpAny_loadPart' hl, wpAny_loadPart' hb; exact ⟨_, rfl, h⟩
section
variable {X : Cx}
def rExtendT (K : PySem.W.Frag) : V → List V → Hp → VK → Prop := fun x vs H Q => ∃ l b xs zs, x = .ref l ∧ vs = [.ref b] ∧ H l = some (.lst xs) ∧ SqT K H b zs ∧ xs.length + zs.length ≤ sizeLine ∧ Q .non (upd H l (.lst (xs ++ zs)))
theorem mt_extendT : MtM X "list.extend" (rExtendT X.K) := by
  intro pins s σ H x vs v us Q I rx rv h
  obtain ⟨l, b, xs, zs, rfl, rfl, hH, hB, hz, q⟩ := h
  cases rx
  obtain ⟨u, rfl, ru⟩ := rv.one
  cases ru
  obtain ⟨z, its, n, r, hl, e⟩ := I.lstM hH
  obtain ⟨its2, r2, ⟨o, e2, hc, n2, hd⟩, hz2⟩ := I.tuple hB
  have hl2 := r2.length
  have hsz : its.toArray.size + its2.toArray.size ≤ sizeLine := by rw [List.size_toArray, List.size_toArray]; omega
  have hlong : ¬ (!its.toArray.isEmpty && Builtin.List.listTooLong (its.toArray.size + its2.toArray.size)) = true := by
    rw [notLongL hsz, Bool.and_false]
    exact Bool.false_ne_true
  obtain ⟨oc, od, dt, sl⟩ := o
  have hc : oc = .type "tuple" := hc
  have hd : dt = .seq its2.toArray n2 := hd
  subst hc
  subst hd
  refine call_meets F.slot_list_extend ⟨_, e, rfl⟩ F.entry_list_extend (F.args_list_extend_2 _ _)
    (ext_tuple l its.toArray n b od sl its2.toArray n2 hlong (by rw [List.size_toArray]; omega) (by omega)) ⟨e, e2, ?_⟩
  refine ⟨.non, _, I.lset (its' := its ++ its2) hH e (by simp) (r.append r2) ?_, rfl, q⟩
  rw [List.length_append]
  omega
theorem MtM.or2 {id : String} {r r' : V → List V → Hp → VK → Prop} (h : MtM X id r) (h' : MtM X id r') : MtM X id (fun x vs H Q => r x vs H Q ∨ r' x vs H Q) := by
  intro pins s σ H x vs v us Q I rx rv q
  rcases q with q | q
  · exact h pins s σ H x vs v us Q I rx rv q
  · exact h' pins s σ H x vs v us Q I rx rv q
end
end Pu
set_option Elab.async false
set_option linter.all false
set_option maxRecDepth 100000
set_option maxHeartbeats 4000000
namespace Pu
open PySem L2 Stp NdefX
open PyProof.Rows hiding St
def ownL (i : Nat) (env : Env) (k : List D → T Fl) : T Fl := match env[i]? with
  | some (some (.ls xs)) => k xs
  | _ => .fail
def appS (i : Nat) (m : Env → T D) : Env → T Fl := fun env => ownL i env fun xs => exS m (fun d env => grd (xs.length ≤ big) (.ret (.nx (env.set i (some (.ls (xs ++ [d]))))))) env
def extS (i : Nat) (m : Env → T D) : Env → T Fl := fun env => ownL i env fun xs => exS m (fun d env => match d with
  | .lst ys => grd (xs.length + ys.length ≤ big) (.ret (.nx (env.set i (some (.ls (xs ++ ys))))))
  | .tup ys => grd (xs.length + ys.length ≤ big) (.ret (.nx (env.set i (some (.ls (xs ++ ys))))))
  | _ => .fail) env
def setS (i : Nat) (mi m : Env → T D) : Env → T Fl := fun env => ownL i env fun xs => exS (fun env => (m env).bind fun d => (mi env).bind fun j => .ret (d, j)) (fun p env => match p.2 with
  | .int k => (match ixN xs.length k with
    | some j => .ret (.nx (env.set i (some (.ls (xs.set j p.1)))))
    | none => .fail)
  | _ => .fail) env
def putD {κ : Type} [DecidableEq κ] (kvs : List (κ × D)) (k : κ) (v : D) : List (κ × D) := if kvs.any (fun kv => decide (kv.1 = k)) then kvs.map fun kv => if kv.1 = k then (kv.1, v) else kv else kvs ++ [(k, v)]
def ownK (i : Nat) (env : Env) (k : List (Key × D) → T Fl) : T Fl := match env[i]? with
  | some (some (.dk xs)) => k xs
  | _ => .fail
def ownT (i : Nat) (env : Env) (k : List (List Key × D) → T Fl) : T Fl := match env[i]? with
  | some (some (.dt xs)) => k xs
  | _ => .fail
def dputK (i : Nat) (mi m : Env → T D) : Env → T Fl := fun env => ownK i env fun kvs => exS (fun env => (m env).bind fun d => (mi env).bind fun j => .ret (d, j)) (fun p env => match keyD p.2 with
  | some k => grd (kvs.length ≤ big) (.ret (.nx (env.set i (some (.dk (putD kvs k p.1))))))
  | none => .fail) env
def dputT (i : Nat) (mi m : Env → T D) : Env → T Fl := fun env => ownT i env fun kvs => exS (fun env => (m env).bind fun d => (mi env).bind fun j => .ret (d, j)) (fun p env => match p.2 with
  | .tup ks => (match keysD ks with
    | some k => grd (kvs.length ≤ big) (.ret (.nx (env.set i (some (.dt (putD kvs k p.1))))))
    | none => .fail)
  | _ => .fail) env
theorem ownL_at {n : Nat} {i : Nat} {env : Env} {k : List D → T Fl} {Q : Fl → Nat → Prop} {E : D → Nat → Prop} (h : (ownL i env k).wp n Q E) : ∃ xs, env[i]? = some (some (.ls xs)) ∧ (k xs).wp n Q E := by
  unfold ownL at h
  cases e : env[i]? with
  | none => rw [e] at h; exact False.elim h
  | some o =>
    rw [e] at h
    cases o with
    | none => exact False.elim h
    | some o => cases o <;> first | exact ⟨_, rfl, h⟩ | exact False.elim h
theorem grd_wp {α : Type} {c : Prop} [Decidable c] {t : T α} {n : Nat} {Q : α → Nat → Prop} {E : D → Nat → Prop} (h : (grd c t).wp n Q E) : c ∧ t.wp n Q E := by
  unfold grd at h
  by_cases hc : c
  · rw [if_pos hc] at h; exact ⟨hc, h⟩
  · rw [if_neg hc] at h; exact False.elim h
section
variable {X : Cx} {G : GC} {W : WX} {i : Nat} {me mi : Env → T D} {o e ei : Expr} {ap cp pos : Pos}
theorem st_append (hk : X.K = G.K) (hv : PE X o (tVar i)) (he : PE X e (tQ G W false me))
    (hbase : attributeBase o "append" X.env (eval o X.env) = eval o X.env := by rfl)
    (hfew : ((backTo cp (starEach [e] X.env)).all (fun x => !x.1) && (backToKw cp (keywordEach [] X.env)).all (fun x => x.1.isSome) && decide (([e] : List Expr).length + ([] : List Keyword).length + (if ([] : List Keyword).isEmpty then 0 else 1) < 30)) = true := by rfl)
    (hline : (ap.endLine == cp.line) = true := by rfl) (hs : starEach [e] X.env = (false, eval e X.env) :: starEach [] X.env := by rfl) (hplain : (backTo cp (starEach [] X.env)).any (·.1) = false := by rfl)
    (hsw : swapsWith (.Call (.Attribute o "append" ap) [e] [] cp) none pos.line X.env = pure false := by rfl) :
    PS X (.Expr (.Call (.Attribute o "append" ap) [e] [] cp) pos) (tS G W (appS i me)) := by
  refine PS.imp (ps_expr (pe_bm PySem.F.plainAttrs_list PySem.F.slot_list_append PySem.F.type_list_append mt_append hv (pa_cons he pa_nil hs) hbase hfew hline hs hplain) hsw) fun E σ H h => ?_
  obtain ⟨C, n, env, us, h⟩ := h
  obtain ⟨xs, e1, w⟩ := ownL_at h.wp
  have h : AtS G W σ env us C n H (exS me (fun d env => grd (xs.length ≤ big) (.ret (.nx (env.set i (some (.ls (xs ++ [d]))))))) env) E := ⟨h.ok, w⟩
  obtain ⟨a, vs, f, hp, l, ma, np⟩ := h.ok.atLs e1
  refine ⟨.ref a, f, .inl ⟨rfl, vs, SqL.of hp⟩, C, n, env, us, (h.expr (R := rV G false)).imp ?_⟩
  rintro v H1 ⟨C1, n1, d, s1, r1, h1⟩
  obtain ⟨hl, h2⟩ := grd_wp h1.wp
  have hp1 : H1 a = some (.lst vs) := s1.kp a _ hp (fun _ z => by cases z) (by simp) np
  have l1 := l.nx s1.nx
  obtain ⟨k2, s2⟩ := h1.ok.setLs f e1 hp1 ma (l1.append (.cons r1.unview .nil))
  exact ⟨a, vs, v, rfl, rfl, hp1, by rw [l1.length]; exact Nat.lt_of_le_of_lt hl (by decide), h2 C1 _ us s2 (fun a m => .inl m) σ k2⟩
theorem st_extend (hk : X.K = G.K) (hv : PE X o (tVar i)) (he : PE X e (tQ G W false me))
    (hbase : attributeBase o "extend" X.env (eval o X.env) = eval o X.env := by rfl)
    (hfew : ((backTo cp (starEach [e] X.env)).all (fun x => !x.1) && (backToKw cp (keywordEach [] X.env)).all (fun x => x.1.isSome) && decide (([e] : List Expr).length + ([] : List Keyword).length + (if ([] : List Keyword).isEmpty then 0 else 1) < 30)) = true := by rfl)
    (hline : (ap.endLine == cp.line) = true := by rfl) (hs : starEach [e] X.env = (false, eval e X.env) :: starEach [] X.env := by rfl) (hplain : (backTo cp (starEach [] X.env)).any (·.1) = false := by rfl)
    (hsw : swapsWith (.Call (.Attribute o "extend" ap) [e] [] cp) none pos.line X.env = pure false := by rfl) :
    PS X (.Expr (.Call (.Attribute o "extend" ap) [e] [] cp) pos) (tS G W (extS i me)) := by
  refine PS.imp (ps_expr (pe_bm PySem.F.plainAttrs_list PySem.F.slot_list_extend PySem.F.type_list_extend (MtM.or2 mt_extend mt_extendT) hv (pa_cons he pa_nil hs) hbase hfew hline hs hplain) hsw) fun E σ H h => ?_
  obtain ⟨C, n, env, us, h⟩ := h
  obtain ⟨xs, e1, w⟩ := ownL_at h.wp
  obtain ⟨a, vs, f, hp, l, ma, np⟩ := h.ok.atLs e1
  refine ⟨.ref a, f, .inl ⟨rfl, vs, SqL.of hp⟩, C, n, env, us, (AtS.expr (R := rV G false) (σ := σ) (H := H) (C := C) (n := n) (us := us) (W := W) (E := E) ⟨h.ok, w⟩).imp ?_⟩
  rintro v H1 ⟨C1, n1, d, s1, r1, h1⟩
  have r1 := r1.unview
  cases r1 <;> try exact h1.no.elim
  case lst p ws ys fp hq lq =>
    obtain ⟨hl, h2⟩ := grd_wp h1.wp
    have hp1 : H1 a = some (.lst vs) := s1.kp a _ hp (fun _ z => by cases z) (by simp) np
    have l1 := l.nx s1.nx
    obtain ⟨k2, s2⟩ := h1.ok.setLs f e1 hp1 ma (l1.append lq)
    exact .inl ⟨a, p, vs, ws, rfl, rfl, hp1, hq, by rw [l1.length, lq.length]; exact Nat.le_trans hl (by decide), h2 C1 _ us s2 (fun a m => .inl m) σ k2⟩
  case tup p ws ys hq lq =>
    obtain ⟨hl, h2⟩ := grd_wp h1.wp
    have hp1 : H1 a = some (.lst vs) := s1.kp a _ hp (fun _ z => by cases z) (by simp) np
    have l1 := l.nx s1.nx
    obtain ⟨k2, s2⟩ := h1.ok.setLs f e1 hp1 ma (l1.append lq)
    exact .inr ⟨a, p, vs, ws, rfl, rfl, hp1, SqT.of hq, by rw [l1.length, lq.length]; exact Nat.le_trans hl (by decide), h2 C1 _ us s2 (fun a m => .inl m) σ k2⟩
theorem RepK.any {C : Cf} {H : Hp} (k : Key) : ∀ {vs : List (Key × V)} {ds : List (Key × D)}, RepK G C H vs ds → (vs.any fun kv => decide (kv.1 = k)) = ds.any fun kv => decide (kv.1 = k)
  | _, _, .nil => rfl
  | _, _, .cons _ l => by rw [List.any_cons, List.any_cons, RepK.any k l]
theorem RepT.any {C : Cf} {H : Hp} (k : List Key) : ∀ {vs : List (List Key × V)} {ds : List (List Key × D)}, RepT G C H vs ds → (vs.any fun kv => decide (kv.1 = k)) = ds.any fun kv => decide (kv.1 = k)
  | _, _, .nil => rfl
  | _, _, .cons _ l => by rw [List.any_cons, List.any_cons, RepT.any k l]
theorem RepK.len {C : Cf} {H : Hp} : ∀ {vs : List (Key × V)} {ds : List (Key × D)}, RepK G C H vs ds → vs.length = ds.length
  | _, _, .nil => rfl
  | _, _, .cons _ l => congrArg (· + 1) (RepK.len l)
theorem RepT.len {C : Cf} {H : Hp} : ∀ {vs : List (List Key × V)} {ds : List (List Key × D)}, RepT G C H vs ds → vs.length = ds.length
  | _, _, .nil => rfl
  | _, _, .cons _ l => congrArg (· + 1) (RepT.len l)
theorem RepK.snoc {C : Cf} {H : Hp} {k : Key} {v : V} {d : D} (r : Rep G C H v d) : ∀ {vs : List (Key × V)} {ds : List (Key × D)}, RepK G C H vs ds → RepK G C H (vs ++ [(k, v)]) (ds ++ [(k, d)])
  | _, _, .nil => .cons r .nil
  | _, _, .cons q l => .cons q (RepK.snoc r l)
theorem RepT.snoc {C : Cf} {H : Hp} {k : List Key} {v : V} {d : D} (r : Rep G C H v d) : ∀ {vs : List (List Key × V)} {ds : List (List Key × D)}, RepT G C H vs ds → RepT G C H (vs ++ [(k, v)]) (ds ++ [(k, d)])
  | _, _, .nil => .cons r .nil
  | _, _, .cons q l => .cons q (RepT.snoc r l)
theorem RepK.repl {C : Cf} {H : Hp} (k : Key) {v : V} {d : D} (r : Rep G C H v d) : ∀ {vs : List (Key × V)} {ds : List (Key × D)}, RepK G C H vs ds → RepK G C H (vs.map fun kv => if kv.1 = k then (kv.1, v) else kv) (ds.map fun kv => if kv.1 = k then (kv.1, d) else kv)
  | _, _, .nil => .nil
  | _, _, .cons (k := k') q l => by
    rw [List.map_cons, List.map_cons]
    by_cases e : k' = k
    · simp only [e, if_true]
      exact .cons r (RepK.repl k r l)
    · simp only [e, if_false]
      exact .cons q (RepK.repl k r l)
theorem RepT.repl {C : Cf} {H : Hp} (k : List Key) {v : V} {d : D} (r : Rep G C H v d) : ∀ {vs : List (List Key × V)} {ds : List (List Key × D)}, RepT G C H vs ds → RepT G C H (vs.map fun kv => if kv.1 = k then (kv.1, v) else kv) (ds.map fun kv => if kv.1 = k then (kv.1, d) else kv)
  | _, _, .nil => .nil
  | _, _, .cons (k := k') q l => by
    rw [List.map_cons, List.map_cons]
    by_cases e : k' = k
    · simp only [e, if_true]
      exact .cons r (RepT.repl k r l)
    · simp only [e, if_false]
      exact .cons q (RepT.repl k r l)
theorem RepK.put {C : Cf} {H : Hp} (k : Key) {v : V} {d : D} (r : Rep G C H v d) {vs : List (Key × V)} {ds : List (Key × D)} (l : RepK G C H vs ds) : RepK G C H (putK vs k v) (putD ds k d) := by
  unfold putK putD
  rw [l.any k]
  by_cases e : (ds.any fun kv => decide (kv.1 = k)) = true
  · rw [if_pos e, if_pos e]; exact l.repl k r
  · rw [if_neg e, if_neg e]; exact l.snoc r
theorem RepT.put {C : Cf} {H : Hp} (k : List Key) {v : V} {d : D} (r : Rep G C H v d) {vs : List (List Key × V)} {ds : List (List Key × D)} (l : RepT G C H vs ds) : RepT G C H (putK vs k v) (putD ds k d) := by
  unfold putK putD
  rw [l.any k]
  by_cases e : (ds.any fun kv => decide (kv.1 = k)) = true
  · rw [if_pos e, if_pos e]; exact l.repl k r
  · rw [if_neg e, if_neg e]; exact l.snoc r
end
def frzE (i : Nat) (env : Env) : Env := match env[i]? with
  | some (some o) => env.set i (some (.fz o.toD))
  | _ => env
def Cf.addL (C : Cf) (l : List Addr) : Cf := ⟨fun a => a ∈ l ∨ C.F a, C.pen, C.me⟩
section
variable {G : GC} {C : Cf} {n : Nat} {H : Hp}
theorem Nx.addL (l : List Addr) : Nx C (C.addL l) H H := ⟨fun a o f h _ => ⟨.inr f, h⟩, fun _ _ h => h, fun _ _ _ h => h, fun _ _ h _ => h, fun _ h => h⟩
theorem OwnL.froz {l : List Addr} : ∀ {as : List Addr} {dss : List (List D)}, OwnL G C H as dss → (∀ a ∈ as, a ∈ l) → RepL G (C.addL l) H (as.map V.ref) (dss.map D.lst)
  | _, _, .nil, _ => .nil
  | _, _, .cons h r q, m => .cons (.lst (.inl (m _ (List.mem_cons_self ..))) h (r.nx (Nx.addL l))) (OwnL.froz q fun a z => m a (List.mem_cons_of_mem _ z))
theorem OwnF.froz {l : List Addr} : ∀ {vs : List (Str × V)} {fs : List (Str × FO)} {us : List Addr}, OwnF G C H vs fs us → (∀ a ∈ us, a ∈ l) → RepF G (C.addL l) H vs (fs.map fun p => (p.1, p.2.toD))
  | _, _, _, .nil, _ => .nil
  | _, _, _, .fz r q, m => .cons (r.nx (Nx.addL l)) (OwnF.froz q m)
  | _, _, _, .ls h r q, m => .cons (.lst (.inl (m _ (List.mem_cons_self ..))) h (r.nx (Nx.addL l))) (OwnF.froz q fun a z => m a (List.mem_cons_of_mem _ z))
  | _, _, _, .dk h r q, m => .cons (.dK (.inl (m _ (List.mem_cons_self ..))) h (r.nx (Nx.addL l))) (OwnF.froz q fun a z => m a (List.mem_cons_of_mem _ z))
  | _, _, _, .dt h r q, m => .cons (.dT (.inl (m _ (List.mem_cons_self ..))) h (r.nx (Nx.addL l))) (OwnF.froz q fun a z => m a (List.mem_cons_of_mem _ z))
theorem OwnR.froz {v : V} {o : O} {us1 l : List Addr} (r : OwnR G C H v o us1) (m : ∀ a ∈ us1, a ∈ l) : Rep G (C.addL l) H v o.toD := by
  have nx := Nx.addL (C := C) (H := H) l
  cases r with
  | fz h => exact h.nx nx
  | ls h q => exact .lst (.inl (m _ (List.mem_cons_self ..))) h (q.nx nx)
  | dk h q => exact .dK (.inl (m _ (List.mem_cons_self ..))) h (q.nx nx)
  | dt h q => exact .dT (.inl (m _ (List.mem_cons_self ..))) h (q.nx nx)
  | dn h z q => exact .dN (.inl (m _ (List.mem_cons_self ..))) h z (q.nx nx)
  | ll h q => exact .lst (.inl (m _ (List.mem_cons_self ..))) h (q.froz fun a z => m a (List.mem_cons_of_mem _ z))
  | ob h c q => exact .obj (.inl (m _ (List.mem_cons_self ..))) h c (q.froz fun a z => m a (List.mem_cons_of_mem _ z))
  | mo e h c q => exact .obj (.inl (m _ (List.mem_cons_self ..))) h c (q.froz fun a z => m a (List.mem_cons_of_mem _ z))
  | me e h c q => exact .obj (.inl (m _ (List.mem_cons_self ..))) h c (q.nx nx)
  | @tl a b k vs ws ds xs h e q hb q2 =>
    have z := RepL.set (C := C.addL l) (Rep.lst (C := C.addL l) (.inl (m _ (List.mem_cons_self ..))) hb (q2.nx nx)) k (q.nx nx)
    rw [set_back e] at z
    exact .tup h z
  | @gl a b as k vs ds dss h e q hb q2 =>
    have z := RepL.set (C := C.addL l) (Rep.lst (C := C.addL l) (.inl (m _ (List.mem_cons_of_mem _ (List.mem_cons_self ..)))) hb (q2.froz fun a z => m a (List.mem_cons_of_mem _ (List.mem_cons_of_mem _ z)))) k (q.nx nx)
    rw [set_back e] at z
    exact .lst (.inl (m _ (List.mem_cons_self ..))) h z
/-- the slot's own things are given away -/
theorem EnvR.froz : ∀ {σ : St} {env : Env} {us : List Addr} {i : Nat} {o : O}, EnvR G C H σ env us → us.Nodup → env[i]? = some (some o) → ∃ v us1, σ[i]? = some (some v) ∧ OwnR G C H v o us1 ∧ (∀ a ∈ us1, a ∈ us) ∧ ∀ l : List Addr, (∀ a ∈ us1, a ∈ l) → ∃ us', EnvR G (C.addL l) H σ (env.set i (some (.fz o.toD))) us' ∧ us'.Sublist us ∧ ∀ a ∈ us', a ∉ us1
  | _, _, _, _, _, .nil, _, e => by simp at e
  | _, _, _, 0, _, .skip _, _, e => by simp at e
  | _, _, _, i + 1, o, .skip r, nd, e => by
    obtain ⟨v, us1, h1, h2, h3, h4⟩ := EnvR.froz (i := i) (o := o) r nd (by simpa using e)
    refine ⟨v, us1, by simpa using h1, h2, h3, fun l m => ?_⟩
    obtain ⟨us', q1, q2, q3⟩ := h4 l m
    exact ⟨us', .skip q1, q2, q3⟩
  | _, _, _, 0, o, .has (v := v) (us1 := u1) (us := us) q r, nd, e => by
    simp at e
    subst e
    rw [List.nodup_append] at nd
    refine ⟨v, u1, rfl, q, fun a z => List.mem_append_left _ z, fun l m => ⟨[] ++ us, .has (.fz (q.froz m)) (r.nx (Nx.addL l) rfl fun _ _ _ h => h), List.sublist_append_right u1 us, fun a z y => nd.2.2 a y a z rfl⟩⟩
  | _, _, _, i + 1, o, .has (v := v) (us1 := u1) (us := us) q r, nd, e => by
    rw [List.nodup_append] at nd
    obtain ⟨v', us1, h1, h2, h3, h4⟩ := EnvR.froz (i := i) (o := o) r nd.2.1 (by simpa using e)
    refine ⟨v', us1, by simpa using h1, h2, fun a z => List.mem_append_right _ (h3 a z), fun l m => ?_⟩
    obtain ⟨us', q1, q2, q3⟩ := h4 l m
    refine ⟨u1 ++ us', .has (q.nx (Nx.addL l) rfl fun _ _ _ h => h) q1, (List.Sublist.refl u1).append q2, fun a z y => ?_⟩
    rcases List.mem_append.mp z with z | z
    · exact nd.2.2 a z a (h3 a y) rfl
    · exact q3 a z y
theorem Ok.froz {σ : St} {env : Env} {us : List Addr} (k : Ok G C n σ env us H) (i : Nat) : ∃ C' us', Ok G C' n σ (frzE i env) us' H ∧ Step us C H C' H ∧ ∀ a ∈ us', a ∈ us := by
  unfold frzE
  cases e : env[i]? with
  | none => exact ⟨C, us, k, Step.refl _ _ _, fun _ h => h⟩
  | some oo =>
    cases oo with
    | none => exact ⟨C, us, k, Step.refl _ _ _, fun _ h => h⟩
    | some o =>
      obtain ⟨v, us1, h1, h2, h3, h4⟩ := k.env.froz k.nd e
      obtain ⟨us', q1, q2, q3⟩ := h4 us1 fun _ z => z
      refine ⟨C.addL us1, us', ⟨⟨k.wf.pen, fun a z => ?_, k.wf.tab⟩, q1, k.nd.sublist q2, fun a m => ?_⟩, ⟨fun _ _ h _ _ _ => h, fun _ u h => ⟨u, h⟩, Nx.addL us1, fun a z => ?_, fun a z => .inl z, rfl⟩, fun a m => q2.subset m⟩
      · rcases z with z | z
        · obtain ⟨_, p2, p3⟩ := k.us a (h3 a z)
          exact ⟨p3, p2⟩
        · exact k.wf.fz a z
      · obtain ⟨p1, p2, p3⟩ := k.us a (q2.subset m)
        refine ⟨fun z => ?_, p2, p3⟩
        rcases z with z | z
        · exact q3 a m z
        · exact p1 z
      · rcases z with z | z
        · exact .inr (.inl (h3 a z))
        · exact .inl z
end
section
variable {X : Cx} {G : GC} {W : WX} {m : Env → T Fl} {st : Stmt} {ss : List Stmt}
/-- ahead of a statement a name's own things may be frozen -/
theorem st_frz (i : Nat) (h : PS X st (tS G W m)) : PS X st (tS G W fun env => m (frzE i env)) := PS.imp h fun E σ H k => by
  obtain ⟨C, n, env, us, k⟩ := k
  obtain ⟨C', us', k1, s1, hu⟩ := k.ok.froz i
  exact ⟨C', n, _, us', AtS.afterS s1 (fun a m => .inl (hu a m)) k1 k.wp⟩
end
end Pu
set_option Elab.async false
set_option linter.all false
set_option maxRecDepth 100000
set_option maxHeartbeats 4000000
namespace Pu
open PySem L2 Stp NdefX
open PyProof.Rows hiding St
def flatD : D → Bool
  | .non => true
  | .bl _ => true
  | .int _ => true
  | .str _ => true
  | _ => false
def eqF : D → D → Bool
  | .non, .non => true
  | .bl a, .bl b => a == b
  | .bl a, .int b => (if a then 1 else 0) == b
  | .int a, .bl b => a == (if b then 1 else 0)
  | .int a, .int b => a == b
  | .str a, .str b => a == b
  | _, _ => false
/-- x in y -/
def inB : D → D → Option Bool
  | x, .lst ys => match x.pd, D.pdL ys with
    | some a, some bs => if SeqAt.shaped a = true ∧ SeqAt.shaped (.list bs) = true then some (bs.any fun z => PyData.eqv z a) else none
    | _, _ => none
  | x, .tup ys => if flatD x = true ∧ ys.all flatD = true then some (ys.any fun y => eqF y x) else none
  | x, .wt ys => if flatD x = true ∧ ys.all flatD = true then some (ys.any fun y => eqF y x) else none
  | x, .dK kvs => (keyD x).map fun k => (valD kvs k).isSome
  | .tup ks, .dT kvs => (keysD ks).map fun k => (valD kvs k).isSome
  | .str i, .str j => some (!(Builtin.Str.occurrences j i 0 j.length 1).isEmpty)
  | _, _ => none
def inD (x y : D) : T D := match inB x y with
  | some b => .ret (.bl b)
  | none => .fail
def notInD (x y : D) : T D := match inB x y with
  | some b => .ret (.bl (!b))
  | none => .fail
section
variable {G : GC} {C : Cf} {H : Hp}
theorem Rep.flat {v : V} {d : D} (r : Rep G C H v d) (h : flatD d = true) : flatV v = true := by
  cases r <;> first | rfl | cases h
theorem Rep.eqF {v u : V} {d e : D} (r : Rep G C H v d) (q : Rep G C H u e) (h : flatD d = true) (h2 : flatD e = true) : eqV v u = eqF d e := by
  cases r <;> cases q <;> first | rfl | (cases h) | (cases h2)
theorem RepL.flat : ∀ {vs : List V} {ds : List D}, RepL G C H vs ds → ds.all flatD = true → vs.all flatV = true
  | _, _, .nil, _ => rfl
  | _, _, .cons r l, h => by
    rw [List.all_cons, Bool.and_eq_true] at h ⊢
    exact ⟨r.flat h.1, RepL.flat l h.2⟩
theorem RepL.inV {u : V} {e : D} (q : Rep G C H u e) (h2 : flatD e = true) : ∀ {vs : List V} {ds : List D}, RepL G C H vs ds → ds.all flatD = true → L2.inV u vs = ds.any fun y => eqF y e
  | _, _, .nil, _ => rfl
  | _, _, .cons r l, h => by
    rw [List.all_cons, Bool.and_eq_true] at h
    have ih := RepL.inV q h2 l h.2
    unfold L2.inV at ih ⊢
    rw [List.any_cons, List.any_cons, ih, r.eqF q h.1 h2]
end
def rInDict (neg : Bool) : R2 := fun x y H Q => ∃ a o, y = .ref a ∧ DGet H a x o ∧ Q (.bl (if neg then !o.isSome else o.isSome)) H
theorem op_inDict {X : Cx} (hu : X.A.units + 1 < cLine) : OpR X (compareOp .In) (rInDict false) := by
  intro pins s σ H x y v u Q I rx ry h
  obtain ⟨a, o, rfl, g, q⟩ := h
  cases ry
  exact d_in hu I g rx fun s' I' => ⟨.bl _, H, I', rfl, q⟩
theorem op_notInDict {X : Cx} (hu : X.A.units + 1 < cLine) : OpR X (compareOp .NotIn) (rInDict true) := by
  intro pins s σ H x y v u Q I rx ry h
  obtain ⟨a, o, rfl, g, q⟩ := h
  cases ry
  exact d_notIn hu I g rx fun s' I' => ⟨.bl _, H, I', rfl, q⟩
theorem in_get {G : GC} {W : WX} {b : Bool} {σ : St} {env : Env} {us : List Addr} {C : Cf} {n : Nat} {H : Hp} {Q : VK} {x y : D} {f : Bool → Bool} (h : At G W (rV G b) σ env us C n H (match inB x y with | some k => .ret (.bl (f k)) | none => .fail) Q) : ∃ k, inB x y = some k ∧ Q (.bl (f k)) H := by
  cases q : inB x y with
  | none => rw [q] at h; exact h.no.elim
  | some k => rw [q] at h; exact ⟨k, rfl, h.ret (.bl _)⟩
def rInAll (K : PySem.W.Frag) (neg : Bool) : R2 := fun x y H Q => (∃ d ds, Dp K H x d ∧ Dp K H y (.list ds) ∧ SeqAt.shaped d = true ∧ SeqAt.shaped (.list ds) = true ∧ Q (.bl (if neg then !ds.any fun z => PyData.eqv z d else ds.any fun z => PyData.eqv z d)) H) ∨ rIn K neg x y H Q ∨ rInDict neg x y H Q ∨
  ∃ i j, x = .str i ∧ y = .str j ∧ Q (.bl (if neg then !(!(Builtin.Str.occurrences j i 0 j.length 1).isEmpty) else !(Builtin.Str.occurrences j i 0 j.length 1).isEmpty)) H
theorem op_inAll {X : Cx} (hu : X.A.units + 65 < cLine) : OpR X (compareOp .In) (rInAll X.K false) := OpR.or (op_inD hu) (OpR.or op_in_seq (OpR.or (op_inDict (by omega)) op_in_str))
theorem op_notInAll {X : Cx} (hu : X.A.units + 65 < cLine) : OpR X (compareOp .NotIn) (rInAll X.K true) := OpR.or (op_notInD hu) (OpR.or op_notIn_seq (OpR.or (op_notInDict (by omega)) op_notin_str))
theorem Nx.toView (C : Cf) (b : Bool) (H : Hp) : Nx (C.vw b) (C.vw true) H H := by
  refine ⟨fun a o f h _ => ⟨?_, h⟩, fun _ _ h => h, fun _ _ _ h => h, fun _ _ h _ => h, fun _ h => h⟩
  rcases f with f | f
  · exact .inl f
  · exact .inr ⟨rfl, f.2⟩
theorem in_all {G : GC} {b1 b2 : Bool} {C : Cf} {H : Hp} {Q : VK} {v u : V} {x y : D} {neg : Bool} {k : Bool} (r1 : Rep G (C.vw b1) H v x) (r2 : Rep G (C.vw b2) H u y) (e : inB x y = some k) (q : Q (.bl (if neg then !k else k)) H) : rInAll G.K neg v u H Q := by
  have r1 : Rep G (C.vw true) H v x := r1.nx (Nx.toView C b1 H)
  have r2 : Rep G (C.vw true) H u y := r2.nx (Nx.toView C b2 H)
  cases r2 with
  | @lst p vs ds f hp l =>
    have e : (match x.pd, D.pdL ds with | some a, some bs => if SeqAt.shaped a = true ∧ SeqAt.shaped (.list bs) = true then some (bs.any fun z => PyData.eqv z a) else none | _, _ => none) = some k := by cases x <;> exact e
    cases q1 : x.pd with
    | none => rw [q1] at e; cases e
    | some a =>
      cases q2 : D.pdL ds with
      | none => rw [q1, q2] at e; cases e
      | some bs =>
        rw [q1, q2] at e
        dsimp only at e
        by_cases hs : SeqAt.shaped a = true ∧ SeqAt.shaped (.list bs) = true
        · rw [if_pos hs] at e
          cases e
          exact .inl ⟨a, bs, r1.dp q1, .lst (SqL.of hp) (l.dp q2), hs.1, hs.2, q⟩
        · rw [if_neg hs] at e; cases e
  | @tup p vs ds hp l =>
    have e : (if flatD x = true ∧ ds.all flatD = true then some (ds.any fun y => eqF y x) else none) = some k := by cases x <;> exact e
    by_cases hs : flatD x = true ∧ ds.all flatD = true
    · rw [if_pos hs] at e
      cases e
      refine .inr (.inl ⟨p, vs, rfl, .inr (SqT.of hp), r1.flat hs.1, l.flat hs.2, ?_⟩)
      rw [l.inV r1 hs.1 hs.2]
      exact q
    · rw [if_neg hs] at e; cases e
  | @wt p vs ds hp l =>
    have e : (if flatD x = true ∧ ds.all flatD = true then some (ds.any fun y => eqF y x) else none) = some k := by cases x <;> exact e
    by_cases hs : flatD x = true ∧ ds.all flatD = true
    · rw [if_pos hs] at e
      cases e
      refine .inr (.inl ⟨p, vs, rfl, .inr (sqT_wt hp), r1.flat hs.1, l.flat hs.2, ?_⟩)
      rw [l.inV r1 hs.1 hs.2]
      exact q
    · rw [if_neg hs] at e; cases e
  | @dK p vs ds f hp l =>
    have e : (keyD x).map (fun k => (valD ds k).isSome) = some k := by cases x <;> exact e
    cases q1 : keyD x with
    | none => rw [q1] at e; cases e
    | some kk =>
      rw [q1] at e
      cases e
      refine .inr (.inr (.inl ⟨p, valV vs kk, rfl, by rw [r1.key q1]; exact DGet.k hp, ?_⟩))
      have z : (valV vs kk).isSome = (valD ds kk).isSome := by
        cases q2 : valD ds kk with
        | none => rw [(l.val kk).1 q2]; rfl
        | some d =>
          obtain ⟨v, e2, _⟩ := (l.val kk).2 d q2
          rw [e2]; rfl
      rw [z]
      exact q
  | @dT p vs ds f hp l =>
    cases r1 <;> try (cases e)
    case tup p2 vs2 ds2 h2 l2 =>
      have e : (keysD ds2).map (fun k => (valD ds k).isSome) = some k := e
      cases q1 : keysD ds2 with
      | none => rw [q1] at e; cases e
      | some kk =>
        rw [q1] at e
        cases e
        refine .inr (.inr (.inl ⟨p, valV vs kk, rfl, DGet.t hp (by rw [h2, l2.keys q1]), ?_⟩))
        have z : (valV vs kk).isSome = (valD ds kk).isSome := by
          cases q2 : valD ds kk with
          | none => rw [(l.val kk).1 q2]; rfl
          | some d =>
            obtain ⟨v, e2, _⟩ := (l.val kk).2 d q2
            rw [e2]; rfl
        rw [z]
        exact q
  | str j =>
    cases r1 <;> try (cases e)
    exact .inr (.inr (.inr ⟨_, _, rfl, rfl, q⟩))
  | _ => cases x <;> cases e
section
variable {X : Cx} {G : GC} {W : WX} {b b1 b2 : Bool} {ma mb : Env → T D} {a c : Expr} {pos : Pos}
theorem s_in (hk : X.K = G.K) (hu : X.A.units + 65 < cLine) (ha : PE X a (tQ G W b1 ma)) (hb : PE X c (tQ G W b2 mb)) (hm : behindInMarks .In c = false := by rfl) : PE X (.Compare a [.In] [c] pos) (tQ G W false (q2 inD ma mb)) := by
  have ho := op_inAll hu
  rw [hk] at ho
  exact s_cmp ho (fun σ env us C n H x y d e Q r1 r2 h => by
    obtain ⟨k, ek, q⟩ := in_get (f := id) h
    exact in_all r1 r2 ek q) ha hb hm
theorem t_notIn (hk : X.K = G.K) (hu : X.A.units + 65 < cLine) (ha : PE X a (tQ G W b1 ma)) (hb : PE X c (tQ G W b2 mb)) (hm : behindInMarks .NotIn c = false := by rfl) : PT X (.Compare a [.NotIn] [c] pos) (tT G W (tb1 (q2 notInD ma mb) truB)) := by
  have ho := op_notInAll hu
  rw [hk] at ho
  exact t_cmp ho (fun σ env us C n H x y d e Q r1 r2 h => by
    obtain ⟨k, ek, q⟩ := in_get (f := fun k => !k) h
    exact in_all r1 r2 ek q) ha hb hm
theorem s_callB {id : String} {x : Str} {p : Pos} {e : Expr} {es : List Expr} {r : List V → Hp → VK → Prop} {f : List D → T D} {ml : Env → T (List D)} (hc : CallR X (.builtin id) r)
    (hf : ∀ σ env us C n H vs ds Q, RepL G (C.vw b1) H vs ds → At G W (rV G b) σ env us C n H (f ds) Q → r vs H Q)
    (hg : Gl X x) (hm : X.mg x = none) (hv : bootBuiltins x = some (.builtin id)) (ha : PA X (e :: es) (tA G W b1 ml)) (hn : x ≠ "__name__" := by decide) (hdb : (x == ("__debug__" : Str)) = false := by decide)
    (he : starEach (e :: es) X.env = (false, eval e X.env) :: starEach es X.env := by rfl) (hpl : (backTo pos (starEach es X.env)).any (·.1) = false := by rfl) : PE X (.Call (.Name x p) (e :: es) [] pos) (tQ G W b (qN f ml)) := by
  refine PE.imp (pe_callB hc hg hm hv ha hn hdb he hpl) fun σ H Q h => ?_
  obtain ⟨C, n, env, us, h⟩ := h
  refine ⟨C, n, env, us, (h.bind (R := rA G b1)).imp ?_⟩
  rintro vs H1 ⟨C1, n1, ds, s1, r1, h1⟩
  exact hf σ env us C1 n1 H1 vs ds Q r1 h1
theorem s_callTy {T' : String} {x : Str} {p : Pos} {e : Expr} {es : List Expr} {r : List V → Hp → VK → Prop} {f : List D → T D} {ml : Env → T (List D)} (hc : CallR X (.type T') r)
    (hf : ∀ σ env us C n H vs ds Q, RepL G (C.vw b1) H vs ds → At G W (rV G b) σ env us C n H (f ds) Q → r vs H Q)
    (hg : Gl X x) (hm : X.mg x = none) (hv : bootBuiltins x = some (.type T')) (ha : PA X (e :: es) (tA G W b1 ml)) (hn : x ≠ "__name__" := by decide) (hdb : (x == ("__debug__" : Str)) = false := by decide)
    (he : starEach (e :: es) X.env = (false, eval e X.env) :: starEach es X.env := by rfl) (hpl : (backTo pos (starEach es X.env)).any (·.1) = false := by rfl) : PE X (.Call (.Name x p) (e :: es) [] pos) (tQ G W b (qN f ml)) := by
  refine PE.imp (pe_callTy hc hg hm hv ha hn hdb he hpl) fun σ H Q h => ?_
  obtain ⟨C, n, env, us, h⟩ := h
  refine ⟨C, n, env, us, (h.bind (R := rA G b1)).imp ?_⟩
  rintro vs H1 ⟨C1, n1, ds, s1, r1, h1⟩
  exact hf σ env us C1 n1 H1 vs ds Q r1 h1
end
def lenF : List D → T D
  | [.lst xs] => .ret (.int xs.length)
  | [.tup xs] => .ret (.int xs.length)
  | [.wt xs] => .ret (.int xs.length)
  | [.bw xs] => .ret (.int xs.length)
  | [.dK xs] => .ret (.int xs.length)
  | [.dT xs] => .ret (.int xs.length)
  | [.str z] => grd (z.length ≤ big) (.ret (.int z.length))
  | _ => .fail
def listF : List D → T D
  | [.lst xs] => .ret (.lst xs)
  | [.tup xs] => .ret (.lst xs)
  | [.wt xs] => .ret (.lst xs)
  | [.bw xs] => .ret (.lst xs)
  | _ => .fail
def tupleF : List D → T D
  | [.lst xs] => .ret (.tup xs)
  | [.tup xs] => .ret (.tup xs)
  | _ => .fail
def intF : List D → T D
  | [.int i] => .ret (.int i)
  | [.bl k] => .ret (.int (if k then 1 else 0))
  | _ => .fail
def max2F : List D → T D
  | [.int i, .int j] => .ret (.int (if j > i then j else i))
  | _ => .fail
def min2F : List D → T D
  | [.int i, .int j] => .ret (.int (if j < i then j else i))
  | _ => .fail
def intsD : List D → Option (List Int)
  | [] => some []
  | .int i :: ds => (intsD ds).map (i :: ·)
  | _ :: _ => none
def blsD : List D → Option (List Bool)
  | [] => some []
  | .bl i :: ds => (blsD ds).map (i :: ·)
  | _ :: _ => none
def allF : List D → T D
  | [.lst xs] => (match blsD xs with
    | some bs => .ret (.bl (bs.all id))
    | none => .fail)
  | _ => .fail
def anyF : List D → T D
  | [.lst xs] => (match blsD xs with
    | some bs => .ret (.bl (bs.any id))
    | none => .fail)
  | _ => .fail
section
variable {G : GC} {C : Cf} {H : Hp}
theorem RepL.ints : ∀ {vs : List V} {ds : List D} {ns : List Int}, RepL G C H vs ds → intsD ds = some ns → vs = ns.map V.int
  | _, _, _, .nil, e => by cases e; rfl
  | _, _, ns, .cons (d := d) (ds := ds) r l, e => by
    cases r <;> try (cases e)
    rename_i i
    have e : (intsD ds).map (i :: ·) = some ns := e
    cases q : intsD ds with
    | none => rw [q] at e; cases e
    | some ms => rw [q] at e; cases e; rw [RepL.ints l q]; rfl
theorem RepL.bls : ∀ {vs : List V} {ds : List D} {ns : List Bool}, RepL G C H vs ds → blsD ds = some ns → vs = ns.map V.bl
  | _, _, _, .nil, e => by cases e; rfl
  | _, _, ns, .cons (d := d) (ds := ds) r l, e => by
    cases r <;> try (cases e)
    rename_i i
    have e : (blsD ds).map (i :: ·) = some ns := e
    cases q : blsD ds with
    | none => rw [q] at e; cases e
    | some ms => rw [q] at e; cases e; rw [RepL.bls l q]; rfl
end
section
variable {X : Cx} {G : GC} {W : WX} {b1 : Bool} {x : Str} {e e2 : Expr} {p pos : Pos} {m m2 : Env → T D}
theorem vals_inv1 {C : Cf} {H : Hp} {vs : List V} {d : D} (r : RepL G C H vs [d]) : ∃ v, vs = [v] ∧ Rep G C H v d := by
  cases r with
  | cons h l => cases l; exact ⟨_, rfl, h⟩
theorem s_len (hk : X.K = G.K) (hg : Gl X "len") (hm : X.mg "len" = none) (ha : PE X e (tQ G W b1 m)) (hs : starEach [e] X.env = (false, eval e X.env) :: starEach [] X.env := by rfl) (hpl : (backTo pos (starEach [] X.env)).any (·.1) = false := by rfl) :
    PE X (.Call (.Name "len" p) [e] [] pos) (tQ G W false (qN lenF (aCons m aNil))) := by
  have hc := (call_len (X := X)).or (call_lenD.or call_len_dT)
  rw [hk] at hc
  refine s_callB hc (fun σ env us C n H vs ds Q r h => ?_) hg hm PySem.boot_len (a_cons ha a_nil hs) (by decide) (by decide) hs hpl
  cases r with
  | nil => exact h.no.elim
  | cons r1 l =>
    cases l with
    | cons _ _ => cases r1 <;> exact h.no.elim
    | nil =>
      cases r1 <;> try exact h.no.elim
      case lst p vs ds f hp l => exact .inl ⟨_, _, rfl, .inl ⟨vs, SqL.of hp, rfl⟩, by rw [l.length]; exact h.ret (.int _)⟩
      case tup p vs ds hp l => exact .inl ⟨_, _, rfl, .inr ⟨vs, SqT.of hp, rfl⟩, by rw [l.length]; exact h.ret (.int _)⟩
      case wt p vs ds hp l => exact .inl ⟨_, _, rfl, .inr ⟨vs, sqT_wt hp, rfl⟩, by rw [l.length]; exact h.ret (.int _)⟩
      case bw p vs ds hp l => exact .inl ⟨_, _, rfl, .inl ⟨vs, .inl (.inr hp), rfl⟩, by rw [l.length]; exact h.ret (.int _)⟩
      case dK p vs ds f hp l => exact .inr (.inl ⟨p, vs, rfl, hp, by rw [l.len]; exact h.ret (.int _)⟩)
      case dT p vs ds f hp l => exact .inr (.inr ⟨p, vs, rfl, hp, by rw [l.len]; exact h.ret (.int _)⟩)
      case str z =>
        obtain ⟨hl, h⟩ := h.grd
        exact .inl ⟨_, _, rfl, ⟨Nat.le_trans hl (by decide), rfl⟩, h.ret (.int _)⟩
theorem s_list (hk : X.K = G.K) (hg : Gl X "list") (hm : X.mg "list" = none) (ha : PE X e (tQ G W false m)) (hs : starEach [e] X.env = (false, eval e X.env) :: starEach [] X.env := by rfl) (hpl : (backTo pos (starEach [] X.env)).any (·.1) = false := by rfl) :
    PE X (.Call (.Name "list" p) [e] [] pos) (tQ G W false (qN listF (aCons m aNil))) := by
  have hc := call_list_of (X := X)
  rw [hk] at hc
  refine s_callTy hc (fun σ env us C n H vs ds Q r h => ?_) hg hm (by decide +kernel) (a_cons ha a_nil hs) (by decide) (by decide) hs hpl
  cases r with
  | nil => exact h.no.elim
  | cons r1 l =>
    cases l with
    | cons _ _ => cases r1 <;> exact h.no.elim
    | nil =>
      have r1 := r1.unview
      cases r1 <;> try exact h.no.elim
      case lst p vs ds f hp l => exact ⟨p, vs, rfl, .inl (SqL.of hp), fun q hq => h.newL l hq⟩
      case tup p vs ds hp l => exact ⟨p, vs, rfl, .inr (SqT.of hp), fun q hq => h.newL l hq⟩
      case wt p vs ds hp l => exact ⟨p, vs, rfl, .inr (sqT_wt hp), fun q hq => h.newL l hq⟩
      case bw p vs ds hp l => exact ⟨p, vs, rfl, .inl (.inl (.inr hp)), fun q hq => h.newL l hq⟩
theorem s_tuple (hk : X.K = G.K) (hg : Gl X "tuple") (hm : X.mg "tuple" = none) (ha : PE X e (tQ G W false m)) (hs : starEach [e] X.env = (false, eval e X.env) :: starEach [] X.env := by rfl) (hpl : (backTo pos (starEach [] X.env)).any (·.1) = false := by rfl) :
    PE X (.Call (.Name "tuple" p) [e] [] pos) (tQ G W false (qN tupleF (aCons m aNil))) := by
  have hc := call_tuple_of (X := X)
  rw [hk] at hc
  refine s_callTy hc (fun σ env us C n H vs ds Q r h => ?_) hg hm (by decide +kernel) (a_cons ha a_nil hs) (by decide) (by decide) hs hpl
  cases r with
  | nil => exact h.no.elim
  | cons r1 l =>
    cases l with
    | cons _ _ => cases r1 <;> exact h.no.elim
    | nil =>
      have r1 := r1.unview
      cases r1 <;> try exact h.no.elim
      case lst p vs ds f hp l => exact ⟨p, vs, rfl, .inl ⟨SqL.of hp, fun q hq => h.newT (l.nx (Nx.view _ false _)) id hq⟩⟩
      case tup p vs ds hp l => exact ⟨p, vs, rfl, .inr ⟨SqT.of hp, h.ret (.tup hp (l.nx (Nx.view _ false _)))⟩⟩
theorem s_intF (hg : Gl X "int") (hm : X.mg "int" = none) (ha : PE X e (tQ G W false m)) (hs : starEach [e] X.env = (false, eval e X.env) :: starEach [] X.env := by rfl) (hpl : (backTo pos (starEach [] X.env)).any (·.1) = false := by rfl) :
    PE X (.Call (.Name "int" p) [e] [] pos) (tQ G W false (qN intF (aCons m aNil))) := by
  refine s_callTy call_int1 (fun σ env us C n H vs ds Q r h => ?_) hg hm (by decide +kernel) (a_cons ha a_nil hs) (by decide) (by decide) hs hpl
  cases r with
  | nil => exact h.no.elim
  | cons r1 l =>
    cases l with
    | cons _ _ => cases r1 <;> exact h.no.elim
    | nil =>
      cases r1 <;> try exact h.no.elim
      case int i => exact .inl ⟨i, rfl, h.ret (.int _)⟩
      case bl i => exact .inr ⟨i, rfl, h.ret (.int _)⟩
/-- a list of truth values, of ints -/
theorem bl_read {g : List Bool → Bool} {σ : St} {env : Env} {us : List Addr} {C : Cf} {n : Nat} {H : Hp} {vs : List V} {ds : List D} {Q : VK} {f : List D → T D} (hf : ∀ xs, f [.lst xs] = (match blsD xs with | some bs => .ret (.bl (g bs)) | none => .fail)) (hf2 : ∀ ds, (∀ xs, ds ≠ [.lst xs]) → f ds = .fail)
    (r : RepL G (C.vw b1) H vs ds) (h : At G W (rV G false) σ env us C n H (f ds) Q) : ∃ (a : Addr) (bs : List Bool), vs = [V.ref a] ∧ SqL G.K H a (bs.map V.bl) ∧ Q (.bl (g bs)) H := by
  by_cases hd : ∃ xs, ds = [.lst xs]
  · obtain ⟨xs, rfl⟩ := hd
    obtain ⟨v, rfl, r1⟩ := vals_inv1 r
    cases r1 with
    | @lst p vs _ fp hp l =>
      rw [hf] at h
      cases q : blsD xs with
      | none => rw [q] at h; exact h.no.elim
      | some bs =>
        rw [q] at h
        exact ⟨p, bs, rfl, by rw [← l.bls q]; exact SqL.of hp, h.ret (.bl _)⟩
  · rw [hf2 ds (fun xs z => hd ⟨xs, z⟩)] at h
    exact h.no.elim
theorem one_or {f : List D → T D} (h : ∀ d, (∀ xs, d ≠ .lst xs) → f [d] = .fail) (h0 : f [] = .fail) (h2 : ∀ a b l, f (a :: b :: l) = .fail) : ∀ ds, (∀ xs, ds ≠ [.lst xs]) → f ds = .fail
  | [], _ => h0
  | [d], k => h d fun xs z => k xs (by rw [z])
  | a :: b :: l, _ => h2 a b l
theorem s_all (hk : X.K = G.K) (hc : X.calm = true) (hg : Gl X "all") (hm : X.mg "all" = none) (ha : PE X e (tQ G W b1 m)) (hs : starEach [e] X.env = (false, eval e X.env) :: starEach [] X.env := by rfl) (hpl : (backTo pos (starEach [] X.env)).any (·.1) = false := by rfl) :
    PE X (.Call (.Name "all" p) [e] [] pos) (tQ G W false (qN allF (aCons m aNil))) := by
  have hc' := cr_all (X := X) hc
  rw [hk] at hc'
  exact s_callB hc' (fun σ env us C n H vs ds Q r h => bl_read (f := allF) (g := fun bs => bs.all id) (fun _ => rfl) (one_or (fun d k => by cases d <;> first | rfl | exact absurd rfl (k _)) rfl (fun a b l => by cases a <;> rfl)) r h) hg hm (by decide +kernel) (a_cons ha a_nil hs) (by decide) (by decide) hs hpl
end
end Pu
set_option Elab.async false
set_option linter.all false
set_option maxRecDepth 100000
set_option maxHeartbeats 4000000
namespace Pu
open PySem L2 Stp NdefX
open PyProof.Rows hiding St
section
variable {X : Cx} {G : GC} {W : WX} {b : Bool} {m k : Env → T D} {ms ks : Env → T Fl} {mt kt : Env → T Bool} {e : Expr} {st : Stmt}
end
def putFD (f : Str) (d : D) : List (Str × D) → List (Str × D)
  | [] => [(f, d)]
  | (g, x) :: r => if g = f then (g, d) :: r else (g, x) :: putFD f d r
def fldD (f : Str) (cs : List Nat) : D → T D
  | .obj c fs => if c ∈ cs then ofO (fs.lookup f) else .fail
  | _ => .fail
section
variable {G : GC} {C : Cf} {H : Hp}
theorem RepF.look (f : Str) : ∀ {vs : List (Str × V)} {ds : List (Str × D)} {d : D}, RepF G C H vs ds → ds.lookup f = some d → ∃ v, vs.lookup f = some v ∧ Rep G C H v d
  | _, _, _, .nil, e => by cases e
  | _, _, d, .cons (k := k) (v := v) (vs := vs) (d := d') (ds := ds) r l, e => by
    rw [List.lookup_cons] at e
    rw [List.lookup_cons]
    by_cases h : (f == k) = true
    · rw [h] at e ⊢
      cases e
      exact ⟨v, rfl, r⟩
    · have h' : (f == k) = false := Bool.eq_false_iff.mpr h
      rw [h'] at e ⊢
      exact RepF.look f l e
theorem RepF.none (f : Str) : ∀ {vs : List (Str × V)} {ds : List (Str × D)}, RepF G C H vs ds → ds.lookup f = none → vs.lookup f = none
  | _, _, .nil, _ => rfl
  | _, _, .cons (k := k) (v := v) (vs := vs) (d := d') (ds := ds) r l, e => by
    rw [List.lookup_cons] at e
    rw [List.lookup_cons]
    by_cases h : (f == k) = true
    · rw [h] at e; cases e
    · have h' : (f == k) = false := Bool.eq_false_iff.mpr h
      rw [h'] at e ⊢
      exact RepF.none f l e
theorem RepF.put (f : Str) {v : V} {d : D} (rv : Rep G C H v d) : ∀ {vs : List (Str × V)} {ds : List (Str × D)}, RepF G C H vs ds → RepF G C H (putF f v vs) (putFD f d ds)
  | _, _, .nil => .cons rv .nil
  | _, _, .cons (k := k) r l => by
    unfold putF putFD
    by_cases h : k = f
    · rw [if_pos h, if_pos h]; exact .cons rv l
    · rw [if_neg h, if_neg h]; exact .cons r (RepF.put f rv l)
theorem RepF.len : ∀ {vs : List (Str × V)} {ds : List (Str × D)}, RepF G C H vs ds → vs.length = ds.length
  | _, _, .nil => rfl
  | _, _, .cons _ l => congrArg (· + 1) (RepF.len l)
end
section
variable {X : Cx} {G : GC} {W : WX} {b : Bool} {m : Env → T D} {e : Expr} {pos : Pos} {f : Str} {cs : List Nat}
theorem s_fld (cs : List Nat) (hk : X.K = G.K) (hc : ∀ c ∈ cs, ∀ A, G.cA c = some A → Cls G.K A ∧ NoAttr G.K A f) (he : PE X e (tQ G W b m)) (hb : attributeBase e f X.env (eval e X.env) = eval e X.env := by rfl) : PE X (.Attribute e f pos) (tQ G W b (q1 (fldD f cs) m)) := by
  refine PE.imp (pe_fld he hb) fun σ H Q h => ?_
  obtain ⟨C, n, env, us, h⟩ := h
  refine ⟨C, n, env, us, (h.bind (R := rV G b)).imp ?_⟩
  rintro v H1 ⟨C1, n1, d, s1, r1, h1⟩
  rw [hk]
  cases r1 <;> try exact h1.no.elim
  case obj p A dx c vs ds fp hp hA l =>
    have h1 : At G W (rV G b) σ env us C1 n1 H1 (if c ∈ cs then ofO (ds.lookup f) else .fail) Q := h1
    by_cases hc' : c ∈ cs
    · rw [if_pos hc'] at h1
      obtain ⟨d, e1, h1⟩ := h1.ofO
      obtain ⟨u, e2, ru⟩ := l.look f e1
      exact ⟨p, A, dx, vs, u, rfl, hp, (hc c hc' A hA).1, (hc c hc' A hA).2, e2, h1.ret ru⟩
    · rw [if_neg hc'] at h1; exact h1.no.elim
end
def tMethS (A : Addr) (m : Str) (sp : Sp) (E : St → XK) (ta : TE) (t : TA) : TE := fun σ H Q => ta σ H fun x H1 => ∃ a dx fs, x = .ref a ∧ H1 a = some (.ins A dx fs) ∧ fs.lookup m = none ∧ t σ H1 fun vs H2 => sp (x :: vs) H2 Q (E σ)
section
variable {X : Cx} {CX : CXT} {k : Nat} {f A : Addr} {fd : FuncData} {ps : List Str} {sp : Sp} {E : St → XK} {m : Str} {pos apos : Pos} {e o : Expr} {es : List Expr} {ta : TE} {t : TA}
theorem pe_methS {pl : Sem Bool} (ho : PE X o ta) (c : Cls X.K A) (hm : Meth X.K A m f) (F : FnOk X.prog X.w X.K X.mg X.base CX k f fd ps sp) (hr : Room k X.A) (hb : Binds X.K fd ps []) (hx : ∀ σ, PassesAt CX X σ (E σ)) (ha : PA X (e :: es) t)
    (hst : starEach (e :: es) X.env = (false, eval e X.env) :: starEach es X.env := by rfl) (hpl : (backTo pos (starEach es X.env)).any (·.1) = false := by rfl)
    (ht : eval (.Call (.Attribute o m apos) (e :: es) [] pos) X.env = (do
      let ov ← eval o X.env
      standAt apos.atName
      let (f, first) ← holding [ov] (getMethod ov m pl)
      callWith pos f first (backTo pos (starEach (e :: es) X.env)) (backToKw pos (keywordEach [] X.env))) := by rfl) :
    PE X (.Call (.Attribute o m apos) (e :: es) [] pos) (tMethS A m sp E ta t) := ⟨fun pins s σ H Q I h => PySem.W.methodCall_KW (pl := pl) (thn (ho.run pins s σ H _ I h) fun u s1 hh => by
  obtain ⟨x, H1, I1, rx, a, dx, fs, ex, ea, l, q⟩ := hh
  subst ex
  cases rx
  refine getmeth_ok I1 ea c hm l (PySem.W.callWith_K (first := [.ref a]) (h₀ := X.base) I.ok.mod.kin hm.kp (thn (ha.run pos pins s1 σ H1 _ I1 q) fun us s2 hq => ?_) hst hpl)
  obtain ⟨vs, H2, I2, r, q2⟩ := hq
  exact ⟨I2.kIn, run_fnS (us := .ref a :: us) (vs := .ref a :: vs) F hr hb (hx σ) I2 (.cons rfl r) q2⟩) ht⟩
end
/-- o.m(..) of an object of the class c -/
def qMeth (c : Nat) (m : Str) (np : Nat) (mf : List D → T D) (mo : Env → T D) (ma : Env → T (List D)) : Env → T D := fun env => (mo env).bind fun o => match o with
  | .obj c' fs => if c' = c ∧ fs.lookup m = none then (ma env).bind fun ds => grd (ds.length + 1 = np) (mf (o :: ds)) else .fail
  | _ => .fail
section
variable {X : Cx} {G : GC} {W : WX} {k c : Nat} {f A : Addr} {fd : FuncData} {ps : List Str} {m : Str} {pos apos : Pos} {e o : Expr} {es : List Expr} {mo : Env → T D} {ma : Env → T (List D)} {mf : List D → T D}
theorem s_meth {pl : Sem Bool} (tk : Takes X W) (hA : G.cA c = some A) (cl : Cls X.K A) (hm : Meth X.K A m f) (F : FnOk X.prog X.w X.K X.mg X.base (L2.CX X.prog X.w) k f fd ps (spM G ps.length mf)) (hr : Room k X.A) (hb : Binds X.K fd ps []) (ho : PE X o (tQ G W false mo)) (ha : PA X (e :: es) (tA G W false ma))
    (hst : starEach (e :: es) X.env = (false, eval e X.env) :: starEach es X.env := by rfl) (hpl : (backTo pos (starEach es X.env)).any (·.1) = false := by rfl)
    (ht : eval (.Call (.Attribute o m apos) (e :: es) [] pos) X.env = (do
      let ov ← eval o X.env
      standAt apos.atName
      let (f, first) ← holding [ov] (getMethod ov m pl)
      callWith pos f first (backTo pos (starEach (e :: es) X.env)) (backToKw pos (keywordEach [] X.env))) := by rfl) :
    PE X (.Call (.Attribute o m apos) (e :: es) [] pos) (tQ G W false (qMeth c m ps.length mf mo ma)) :=
  PE.imp (pe_methS ho cl hm F hr hb (fun σ => passAt tk σ) ha hst hpl ht) fun σ H Q h => by
    obtain ⟨C, n, env, us, h⟩ := h
    refine ⟨C, n, env, us, (h.bind (R := rV G false)).imp ?_⟩
    rintro v H1 ⟨C1, n1, d, s1, r1, h1⟩
    have r1 := r1.unview
    cases r1 <;> try exact h1.no.elim
    case obj p A' dx c' vs ds fp hp hA' l =>
      replace h1 : At G W (rV G false) σ env us C1 n1 H1 (if c' = c ∧ ds.lookup m = none then (ma env).bind fun es => grd (es.length + 1 = ps.length) (mf (.obj c' ds :: es)) else .fail) Q := h1
      by_cases hc : c' = c ∧ ds.lookup m = none
      · rw [if_pos hc] at h1
        obtain ⟨hc1, hc2⟩ := hc
        subst hc1
        rw [hA] at hA'
        cases hA'
        refine ⟨p, dx, vs, rfl, hp, l.none m hc2, C1, n1, env, us, (h1.bind (R := rA G false)).imp ?_⟩
        rintro us2 H2 ⟨C2, n2, es, s2, r2, h2⟩
        obtain ⟨hl, h2⟩ := h2.grd
        exact ⟨C2, n2, .obj c' ds :: es, h2.ok.wf, .cons ((Rep.obj fp hp hA l).nx s2.nx) (r2.nx (Nx.unview _ _)), hl, T.wp_mono h2.wp (fun d n' _ z C' H' v s w r => z C' H' v s w (r.view false)) (fun e n' _ z C' H' cls dx s w r => z C' H' cls dx s w r)⟩
      · rw [if_neg hc] at h1; exact h1.no.elim
end
/-- the promise of an __init__ that runs as m: the fields behind it -/
def spI (G : GC) (np : Nat) (m : Nat → List (Str × D) → List D → T (List (Str × D))) : Sp := fun vs H Q E => ∃ C n c A dx a vfs fs ws ds, vs = .ref a :: ws ∧ H a = some (.ins A dx vfs) ∧ G.cA c = some A ∧ RepF G C H vfs fs ∧ RepL G C H ws ds ∧ ds.length + 1 = np ∧ Wf G C n H ∧ ¬ C.F a ∧ a ∉ C.pa ∧
  (m c fs ds).wp n (fun fs' n' => ∀ C' H' vfs', Step [a] C H C' H' → Wf G C' n' H' → ¬ C'.F a → a ∉ C'.pa → H' a = some (.ins A dx vfs') → RepF G C' H' vfs' fs' → Q .non H') (fun e n' => ∀ C' H' cls dx', Step [a] C H C' H' → Wf G C' n' H' → RepX G cls dx' e → E cls dx' H')
def endI : Fl → T (List (Str × D))
  | .nx env => (match env[(0 : Nat)]? with
    | some (some (O.me _ fs)) => .ret fs
    | _ => .fail)
  | .ex e _ => .ex e
  | _ => .fail
def startI (nN c : Nat) (fs : List (Str × D)) (ds : List D) : Env := some (.me c fs) :: (ds.map (fun d => some (.fz d)) ++ List.replicate (nN - (ds.length + 1)) none)
def runI (nN : Nat) (m : Env → T Fl) (c : Nat) (fs : List (Str × D)) (ds : List D) : T (List (Str × D)) := (m (startI nN c fs ds)).noX.bind endI
def Cf.setMe (C : Cf) (x : Option (Addr × Addr × Addr)) : Cf := ⟨C.F, C.pen, x⟩
theorem Nx.setMe (C : Cf) (x : Option (Addr × Addr × Addr)) (H : Hp) : Nx C (C.setMe x) H H := ⟨fun _ _ f h _ => ⟨f, h⟩, fun _ _ h => h, fun _ _ _ h => h, fun _ _ h _ => h, fun _ h => h⟩
theorem Wf.setMe {G : GC} {C : Cf} {n : Nat} {H : Hp} (w : Wf G C n H) (x : Option (Addr × Addr × Addr)) : Wf G (C.setMe x) n H := ⟨w.pen, w.fz, w.tab⟩
theorem Step.unMe {us : List Addr} {C C' : Cf} {H H' : Hp} {x : Option (Addr × Addr × Addr)} (s : Step us (C.setMe x) H C' H') : Step us C H (C'.setMe C.me) H' :=
  ⟨s.kp, s.al, ⟨fun a o f h t => s.nx.fk a o f h t, s.nx.tp, s.nx.fp, s.nx.xp, s.nx.pn⟩, s.fn, s.pf, rfl⟩
section
variable {G : GC} {H : Hp}
theorem spI_read {N : List Str} {np : Nat} {m : Env → T Fl} {vs : List V} {Q : VK} {E : XK} (h : spI G np (runI N.length m) vs H Q E) : tS G (fun cls d _ H => E cls d H) m { nx := fun _ H' => Q .non H', rt := Q } (L2.start N vs) H := by
  obtain ⟨C, n, c, A, dx, a, vfs, fs, ws, ds, rfl, ha, hA, rf, rl, hl, wf, nf, np', w⟩ := h
  have nx := Nx.setMe C (some (a, A, dx)) H
  have er : EnvR G (C.setMe (some (a, A, dx))) H (L2.start N (.ref a :: ws)) (startI N.length c fs ds) [a] := by
    unfold L2.start startI
    rw [List.map_cons, List.cons_append, List.length_cons, rl.length]
    exact .has (us1 := [a]) (us := []) (.me rfl ha hA (rf.nx nx)) (EnvR.start _ (rl.nx nx))
  refine ⟨C.setMe (some (a, A, dx)), n, startI N.length c fs ds, [a], ⟨wf.setMe _, er, by simp, fun b m => ?_⟩, ?_⟩
  · rw [List.mem_singleton.mp m]
    exact ⟨nf, np', _, ha, fun _ z => by cases z⟩
  refine T.wp_mono (T.wp_noX (E' := fun _ _ => False) (T.wp_bind w)) (fun r n' _ z C' H' us' s hu => ?_) (fun e n' _ z => z)
  have s' := s.unMe
  cases r with
  | nx env =>
    intro σ ok
    cases q : env[(0 : Nat)]? with
    | none =>
      have z : (T.wp (match env[(0 : Nat)]? with | some (some (O.me _ fs)) => .ret fs | _ => .fail) n' _ _) := z
      rw [q] at z
      exact False.elim z
    | some oo =>
      have z : (T.wp (match env[(0 : Nat)]? with | some (some (O.me _ fs)) => .ret fs | _ => .fail) n' _ _) := z
      rw [q] at z
      cases oo with
      | none => exact False.elim z
      | some o =>
        cases o <;> try exact False.elim z
        case me c' fs' =>
          obtain ⟨v, us1, h1, h2, h3⟩ := ok.env.at q
          cases h2 with
          | @me b B dy _ vfs' _ em hb hB rf' =>
            have e1 : C'.me = some (a, A, dx) := s.me
            rw [e1] at em
            cases em
            have ma := h3 a (List.mem_singleton.mpr rfl)
            obtain ⟨q1, q2, _⟩ := ok.us a ma
            exact z (C'.setMe C.me) H' vfs' s' (ok.wf.setMe _) q1 q2 hb (rf'.nx (Nx.setMe C' C.me H'))
  | rt d => exact False.elim z
  | ro o => exact False.elim z
  | bk env => exact False.elim z
  | ct env => exact False.elim z
  | ex e env => exact fun σ cls dx ok rx => z (C'.setMe C.me) H' cls dx s' (ok.wf.setMe _) rx
end
section
variable {P : Program} {w : World} {K : PySem.W.Frag} {mg : Str → Option Value} {base : Heap} {G : GC}
theorem fn_init {x qual : Str} {st : Stmt} {f : Addr} {fd : FuncData} {N ps : List Str} {k : Nat} {m : Env → T Fl} (F : Fun K x qual st f fd) (S : FnScope N ps (defScope st))
    (hb : ∀ (cdv : Value) (A : Around) (outer : List PySem.Env) (s : Shared) (H : Hp) (E : XK), Room k (A.deeper (envOfC qual (defScope st) s.heap.objs.size f cdv)) →
      PSs (cxOf (L2.CX P w) P w K mg base N qual (defScope st) f cdv A outer s H E) (defBody st) (tS G (fun cls d _ H => E cls d H) m)) : FnOk P w K mg base (L2.CX P w) (k + 1) f fd ps (spI G ps.length (runI N.length m)) :=
  F.okX S (fun vs H Q E h => by
    obtain ⟨C, n, c, A, dx, a, vfs, fs, ws, ds, rfl, ha, hA, rf, rl, hl, _⟩ := h
    rw [List.length_cons, rl.length, hl]) fun cdv A outer s H vs Q E hr h => ⟨_, hb cdv A outer s H E hr, spI_read h⟩
end
/-- self.f = e, in an __init__ -/
def meS (cs : List Nat) (f : Str) (m : Env → T D) : Env → T Fl := fun env => match env[(0 : Nat)]? with
  | some (some (O.me c fs)) => if c ∈ cs ∧ fs.length < 100 then exS m (fun d env => .ret (.nx (env.set 0 (some (.me c (putFD f d fs)))))) env else .fail
  | _ => .fail
/-- Base.__init__(self, ..) -/
def baseS (m : Nat → List (Str × D) → List D → T (List (Str × D))) (np : Nat) (ma : Env → T (List D)) : Env → T Fl := fun env => match env[(0 : Nat)]? with
  | some (some (O.me c fs)) => exS (fun env => (ma env).bind fun ds => grd (ds.length + 1 = np) (m c fs ds).noX) (fun fs' env => .ret (.nx (env.set 0 (some (.me c fs'))))) env
  | _ => .fail
section
variable {X : Cx} {G : GC} {W : WX} {cs : List Nat} {f : Str} {m : Env → T D} {o e : Expr} {pos pos' : Pos}
theorem me_at {t : Nat → List (Str × D) → T Fl} {env : Env} {n : Nat} {Q : Fl → Nat → Prop} {E : D → Nat → Prop} (h : T.wp (match env[(0 : Nat)]? with | some (some (O.me c fs)) => t c fs | _ => .fail) n Q E) : ∃ c fs, env[(0 : Nat)]? = some (some (O.me c fs)) ∧ (t c fs).wp n Q E := by
  cases q : env[(0 : Nat)]? with
  | none => rw [q] at h; exact False.elim h
  | some oo =>
    rw [q] at h
    cases oo with
    | none => exact False.elim h
    | some o => cases o <;> first | exact ⟨_, _, rfl, h⟩ | exact False.elim h
theorem Ok.atMe {C : Cf} {n c : Nat} {H : Hp} {σ : St} {env : Env} {us : List Addr} {fs : List (Str × D)} (k : Ok G C n σ env us H) (e : env[(0 : Nat)]? = some (some (O.me c fs))) : ∃ a A dx vs, C.me = some (a, A, dx) ∧ σ[0]? = some (some (.ref a)) ∧ H a = some (.ins A dx vs) ∧ G.cA c = some A ∧ RepF G C H vs fs ∧ a ∈ us ∧ ¬ C.F a ∧ a ∉ C.pa := by
  obtain ⟨v, us1, h1, h2, h3⟩ := k.env.at e
  cases h2 with
  | @me a A dx _ vs _ em hp hA l =>
    have ma := h3 a (List.mem_singleton.mpr rfl)
    exact ⟨a, A, dx, vs, em, h1, hp, hA, l, ma, (k.us a ma).1, (k.us a ma).2.1⟩
theorem Ok.setMe' {C : Cf} {n c : Nat} {H : Hp} {σ : St} {env : Env} {us : List Addr} {fs fs' : List (Str × D)} {vs vs' : List (Str × V)} {a A dx : Addr} (k : Ok G C n σ env us H) (em : C.me = some (a, A, dx)) (f : σ[0]? = some (some (.ref a))) (e : env[(0 : Nat)]? = some (some (O.me c fs))) (hp : H a = some (.ins A dx vs)) (hA : G.cA c = some A) (ma : a ∈ us) (r' : RepF G C H vs' fs') :
    Ok G C n σ (env.set 0 (some (.me c fs'))) us (upd H a (.ins A dx vs')) ∧ Step us C H C (upd H a (.ins A dx vs')) :=
  k.mutA f e ma hp (fun _ z => by cases z) (fun _ _ z => by cases z) (fun _ z => by cases z) (fun _ z => by cases z) fun nx us1 q => by
    cases q with
    | me em' hq hA' lq => exact ⟨List.mem_singleton.mpr rfl, .me em upd_same hA (r'.nx nx)⟩
theorem st_me (cs : List Nat) (hk : X.K = G.K) (hc : ∀ c ∈ cs, ∀ A, G.cA c = some A → Cls G.K A ∧ NoAttr G.K A f) (ho : PE X o (tVar 0)) (he : PE X e (tQ G W false m)) (hs : swapsWith e (some (.Attribute o f pos')) pos.line X.env = pure false := by rfl) : PS X (.Assign [.Attribute o f pos'] e pos) (tS G W (meS cs f m)) := by
  refine PS.imp (ps_fld ho he hs) fun E σ H h => ?_
  obtain ⟨C, n, env, us, h⟩ := h
  obtain ⟨c, fs, e1, w⟩ := me_at (t := fun c fs => if c ∈ cs ∧ fs.length < 100 then exS m (fun d env => .ret (.nx (env.set 0 (some (.me c (putFD f d fs)))))) env else .fail) h.wp
  by_cases hcs : c ∈ cs ∧ fs.length < 100
  · rw [if_pos hcs] at w
    obtain ⟨a, A, dx, vs, em, f1, hp, hA, l, ma, nf, np⟩ := h.ok.atMe e1
    refine ⟨C, n, env, us, (AtS.expr (R := rV G false) (σ := σ) (H := H) (C := C) (n := n) (us := us) (W := W) (E := E) ⟨h.ok, w⟩).imp ?_⟩
    rintro v H1 ⟨C1, n1, d, s1, r1, h1⟩
    have hp1 : H1 a = some (.ins A dx vs) := s1.kp a _ hp (fun _ z => by cases z) (by simp) np
    have l1 := l.nx s1.nx
    obtain ⟨k2, s2⟩ := h1.ok.setMe' (s1.me.trans em) f1 e1 hp1 hA ma (l1.put f r1.unview)
    refine ⟨.ref a, f1, a, A, dx, vs, rfl, hp1, ?_, ?_, ?_, h1.ret s2 (fun a m => .inl m) σ k2⟩
    · rw [hk]; exact (hc c hcs.1 A hA).1
    · rw [hk]; exact (hc c hcs.1 A hA).2
    · rw [l1.len]; omega
  · rw [if_neg hcs] at w; exact False.elim w
end
section
variable {X : Cx} {G : GC} {E : XK} {k c : Nat} {f A : Addr} {fd : FuncData} {ps : List Str} {x : Str} {p pos : Pos} {e : Expr} {es : List Expr} {ma : Env → T (List D)} {mi : Nat → List (Str × D) → List D → T (List (Str × D))}
/-- C(..) -/
theorem s_make (hx : Passes (L2.CX X.prog X.w) X E) (hA : G.cA c = some A) (M : Mk X.K A f) (F : FnOk X.prog X.w X.K X.mg X.base (L2.CX X.prog X.w) k f fd ps (spI G ps.length mi)) (hr : Room (k + 1) X.A) (hg : Gl X x) (hm : X.mg x = some (.ref A)) (hb : Binds X.K fd ps [])
    (ha : PA X (e :: es) (tA G (fun cls d _ H => E cls d H) false ma)) (hdb : (x == ("__debug__" : Str)) = false := by decide) (he : starEach (e :: es) X.env = (false, eval e X.env) :: starEach es X.env := by rfl) (hpl : (backTo pos (starEach es X.env)).any (·.1) = false := by rfl) :
    PE X (.Call (.Name x p) (e :: es) [] pos) (tQ G (fun cls d _ H => E cls d H) false (qN (fun ds => grd (ds.length + 1 = ps.length) ((mi c [] ds).bind fun fs => .ret (.obj c fs))) ma)) := by
  refine PE.imp (pe_make M F hr hg hm hb .nil hx ha hdb he hpl) fun σ H Q h => ?_
  obtain ⟨C, n, env, us, h⟩ := h
  refine ⟨C, n, env, us, (h.bind (R := rA G false)).imp ?_⟩
  rintro vs H1 ⟨C1, n1, ds, s1, r1, h1⟩ a dx ha' hdx ne
  obtain ⟨hl, h1⟩ := h1.grd
  have s2 := step_tup (C := C1) (o := .own a) hdx
  have w2 := h1.ok.wf.tup (o := .own a) hdx
  have ha2 : upd H1 dx (.own a) a = none := by rw [upd_ne (Ne.symm ne)]; exact ha'
  have s3 := s2.trans (step_tup (C := C1) (o := .ins A dx []) ha2) (by simp)
  have w3 := w2.tup (o := .ins A dx []) ha2
  have nfa : ¬ C1.F a := fun z => by
    obtain ⟨⟨o, e, _⟩, _⟩ := h1.ok.wf.fz a z
    rw [ha'] at e; cases e
  rw [List.append_nil]
  refine ⟨C1, n1, c, A, dx, a, [], [], vs, ds, rfl, upd_same, hA, .nil, (r1.nx (Nx.unview _ _)).nx s3.nx, hl, w3, nfa, h1.ok.wf.pne ha', T.wp_mono (T.wp_bind h1.wp) ?_ ?_⟩
  · intro fs' n' _ z C' H' vfs' st wf nf np hv rf
    refine ⟨rfl, z ⟨fun b => b = a ∨ C'.F b, C'.pen, C'.me⟩ H' (.ref a) ?_ ?_ ?_⟩
    · have keep : ∀ b o, H1 b = some o → upd (upd H1 dx (.own a)) a (.ins A dx []) b = some o := fun b o e => by
        rw [upd_ne (ne_of_none e ha'), upd_ne (ne_of_none e hdx)]; exact e
      refine ⟨fun b o e t n1 n2 => st.kp b o (keep b o e) t (fun z => ne_of_none e ha' (List.mem_singleton.mp z)) n2, fun b o e => st.al b o (keep b o e), ⟨fun b o f e t => ?_, fun b xs e => st.nx.tp b xs (keep _ _ e), fun b o u e => st.nx.fp b o u (keep _ _ e), fun b φ e => st.nx.xp b φ (keep _ _ e), st.nx.pn⟩, fun b z => ?_, fun b z => ?_, st.me⟩
      · obtain ⟨q1, q2⟩ := st.nx.fk b o f (keep b o e) t
        exact ⟨.inr q1, q2⟩
      · rcases z with z | z
        · exact .inr (.inr (by rw [z]; exact ha'))
        · rcases st.fn b z with y | y | y
          · exact .inl y
          · exact .inr (.inr (by rw [List.mem_singleton.mp y]; exact ha'))
          · refine .inr (.inr ?_)
            by_cases hb : b = a
            · rw [hb]; exact ha'
            · by_cases hb2 : b = dx
              · rw [hb2]; exact hdx
              · rw [upd_ne hb, upd_ne hb2] at y; exact y
      · rcases st.pf b z with y | y
        · exact .inl y
        · refine .inr ?_
          by_cases hb : b = a
          · rw [hb]; exact ha'
          · by_cases hb2 : b = dx
            · rw [hb2]; exact hdx
            · rw [upd_ne hb, upd_ne hb2] at y; exact y
    · refine ⟨wf.pen, fun b z => ?_, wf.tab⟩
      rcases z with z | z
      · rw [z]; exact ⟨⟨_, hv, fun _ z => by cases z⟩, np⟩
      · exact wf.fz b z
    · have nxv : Nx C' ((⟨fun b => b = a ∨ C'.F b, C'.pen, C'.me⟩ : Cf).vw false) H' H' := ⟨fun b o f h _ => ⟨Or.inl (Or.inr f), h⟩, fun _ _ h => h, fun _ _ _ h => h, fun _ _ h _ => h, fun _ h => h⟩
      exact .obj (.inl (.inl rfl)) hv hA (rf.nx nxv)
  · intro e n' _ z C' H' cls dx' st wf rx
    refine z C' H' cls dx' ?_ wf rx
    have keep : ∀ b o, H1 b = some o → upd (upd H1 dx (.own a)) a (.ins A dx []) b = some o := fun b o e => by
      rw [upd_ne (ne_of_none e ha'), upd_ne (ne_of_none e hdx)]; exact e
    have back : ∀ b, upd (upd H1 dx (.own a)) a (.ins A dx []) b = none → H1 b = none := fun b y => by
      by_cases hb : b = a
      · rw [hb]; exact ha'
      · by_cases hb2 : b = dx
        · rw [hb2]; exact hdx
        · rw [upd_ne hb, upd_ne hb2] at y; exact y
    refine ⟨fun b o e t n1 n2 => st.kp b o (keep b o e) t (fun z => ne_of_none e ha' (List.mem_singleton.mp z)) n2, fun b o e => st.al b o (keep b o e), ⟨fun b o f e t => st.nx.fk b o f (keep b o e) t, fun b xs e => st.nx.tp b xs (keep _ _ e), fun b o u e => st.nx.fp b o u (keep _ _ e), fun b φ e => st.nx.xp b φ (keep _ _ e), st.nx.pn⟩, fun b z => ?_, fun b z => (st.pf b z).elim .inl fun y => .inr (back b y), st.me⟩
    rcases st.fn b z with y | y | y
    · exact .inl y
    · exact .inr (.inr (by rw [List.mem_singleton.mp y]; exact ha'))
    · exact .inr (.inr (back b y))
end
end Pu
set_option Elab.async false
set_option linter.all false
set_option maxRecDepth 100000
set_option maxHeartbeats 4000000
namespace Pu
open PySem L2 Stp NdefX
open PyProof.Rows hiding St
section
variable {X : Cx} {CX : CXT} {k : Nat} {f A : Addr} {fd : FuncData} {ps : List Str} {sp : Sp} {E : St → XK} {x m : Str} {p1 p2 pos : Pos} {e : Expr} {es : List Expr} {t : TA} {mc : Value}
/-- C.m(..), C an own class, m a def of it -/
theorem pe_clsfn {pl : Sem Bool} (hg : Gl X x) (hm : X.mg x = some (.ref A)) (r : ClX.CRead X.K A mc) (vV : PySem.W.findCls X.K (.ref A) mc m = some (.val (.ref f))) (hk : PySem.W.keepIn X.K (.ref f) = true) (F : FnOk X.prog X.w X.K X.mg X.base CX k f fd ps sp) (hr : Room k X.A) (hb : Binds X.K fd ps []) (hx : ∀ σ, PassesAt CX X σ (E σ)) (ha : PA X (e :: es) t)
    (hdb : (x == ("__debug__" : Str)) = false := by decide)
    (hc : eval (.Call (.Attribute (.Name x p1) m p2) (e :: es) [] pos) X.env = (do
      let ov ← eval (.Name x p1) X.env
      standAt p2.atName
      let (f, first) ← holding [ov] (getMethod ov m pl)
      callWith pos f first (backTo pos (starEach (e :: es) X.env)) (backToKw pos (keywordEach [] X.env))) := by rfl)
    (he : starEach (e :: es) X.env = (false, eval e X.env) :: starEach es X.env := by rfl) (hpl : (backTo pos (starEach es X.env)).any (·.1) = false := by rfl) :
    PE X (.Call (.Attribute (.Name x p1) m p2) (e :: es) [] pos) (tCallS sp E t) := ⟨fun pins s σ H Q I h => PySem.W.methodCall_KW (ld_glob I hg hm (PySem.W.method_cls I.kIn r.ga (PySem.W.cls_value I.kIn r.rd vV (handed_of (v := .ref f) rfl) (PySem.W.callWith_K (first := []) (h₀ := X.base) I.ok.mod.kin hk (thn (ha.run pos pins _ σ H _ (I.tok _) h) fun us s2 hq => by
  obtain ⟨vs, H2, I2, r, q2⟩ := hq
  exact ⟨I2.kIn, run_fnS F hr hb (hx σ) I2 r q2⟩) he hpl))) hdb) hc⟩
end
section
variable {X : Cx} {G : GC} {W : WX} {k : Nat} {f A : Addr} {fd : FuncData} {ps : List Str} {x m : Str} {p1 p2 pos spos : Pos} {e : Expr} {es : List Expr} {ma : Env → T (List D)} {mc : Value} {mi : Nat → List (Str × D) → List D → T (List (Str × D))}
theorem st_base {pl : Sem Bool} (tk : Takes X W) (hg : Gl X x) (hm : X.mg x = some (.ref A)) (r : ClX.CRead X.K A mc) (vV : PySem.W.findCls X.K (.ref A) mc m = some (.val (.ref f))) (hk : PySem.W.keepIn X.K (.ref f) = true) (F : FnOk X.prog X.w X.K X.mg X.base (L2.CX X.prog X.w) k f fd ps (spI G ps.length mi)) (hr : Room k X.A) (hb : Binds X.K fd ps [])
    (hs : PE X e (tVar 0)) (ha : PA X es (tA G W false ma)) (hdb : (x == ("__debug__" : Str)) = false := by decide)
    (hc : eval (.Call (.Attribute (.Name x p1) m p2) (e :: es) [] pos) X.env = (do
      let ov ← eval (.Name x p1) X.env
      standAt p2.atName
      let (f, first) ← holding [ov] (getMethod ov m pl)
      callWith pos f first (backTo pos (starEach (e :: es) X.env)) (backToKw pos (keywordEach [] X.env))) := by rfl)
    (he : starEach (e :: es) X.env = (false, eval e X.env) :: starEach es X.env := by rfl) (hpl : (backTo pos (starEach es X.env)).any (·.1) = false := by rfl)
    (hsw : swapsWith (.Call (.Attribute (.Name x p1) m p2) (e :: es) [] pos) none spos.line X.env = pure false := by rfl) :
    PS X (.Expr (.Call (.Attribute (.Name x p1) m p2) (e :: es) [] pos) spos) (tS G W (baseS mi ps.length ma)) := by
  refine PS.imp (ps_expr (pe_clsfn hg hm r vV hk F hr hb (fun σ => passAt tk σ) (pa_cons hs ha he) hdb hc he hpl) hsw) fun En σ H h => ?_
  obtain ⟨C, n, env, us, h⟩ := h
  obtain ⟨c, fs, e1, w⟩ := me_at (t := fun c fs => exS (fun env => (ma env).bind fun ds => grd (ds.length + 1 = ps.length) (mi c fs ds).noX) (fun fs' env => .ret (.nx (env.set 0 (some (.me c fs'))))) env) h.wp
  obtain ⟨a, A', dx, vs, em, f1, hp, hA, l, mem, nf, np⟩ := h.ok.atMe e1
  refine ⟨.ref a, f1, C, n, env, us, h.ok, T.wp_mono (T.wp_bind (T.wp_bindX w)) ?_ ?_⟩
  · intro ds n1 _ z C1 H1 ws s1 w1 r1
    have k1 := h.ok.q s1 w1
    obtain ⟨hl, z⟩ := grd_wp z
    have hp1 : H1 a = some (.ins A' dx vs) := s1.kp a _ hp (fun _ z => by cases z) (by simp) np
    obtain ⟨nf1, np1, _⟩ := k1.us a mem
    refine ⟨C1, n1, c, A', dx, a, vs, fs, ws, ds, rfl, hp1, hA, l.nx s1.nx, r1.nx (Nx.unview _ _), hl, w1, nf1, np1, T.wp_mono (T.wp_noX (E' := fun _ _ => False) z) ?_ (fun _ _ _ z => False.elim z)⟩
    · intro fs' n2 _ z2 C2 H2 vfs' st wf2 nf2 np2 hv rf
      have st' : Step us C1 H1 C2 H2 := st.up fun b mb => by rw [List.mem_singleton.mp mb]; exact mem
      have keep : ∀ b ∈ us, b ≠ a → ∀ u, H1 b = some u → H2 b = some u := fun b mb hb u e => by
        obtain ⟨_, q2, u', e', t⟩ := k1.us b mb
        rw [e] at e'; cases e'
        exact st.kp b u e t (fun y => hb (List.mem_singleton.mp y)) q2
      have em2 : C2.me = some (a, A', dx) := (st.me.trans s1.me).trans em
      have er : EnvR G C2 H2 σ (env.set 0 (some (.me c fs'))) us := by
        have k1e := k1.env
        cases k1e with
        | nil => simp at e1
        | skip r => simp at e1
        | @has v o us1 us2 σ2 env2 q r =>
          simp at e1
          subst e1
          cases q with
          | @me b B dy _ _ _ em' hq hB lq =>
            have e5 : some (b, B, dy) = some (a, A', dx) := em'.symm.trans (s1.me.trans em)
            cases e5
            have nd := k1.nd
            rw [List.nodup_append] at nd
            exact .has (us1 := [a]) (.me em2 hv hA rf) (r.nx st.nx st.me fun y my u e => keep y (List.mem_append_right _ my) (fun z => nd.2.2 a (List.mem_singleton.mpr rfl) y my z.symm) u e)
      have ok2 : Ok G C2 n2 σ (env.set 0 (some (.me c fs'))) us H2 := by
        refine ⟨wf2, er, k1.nd, fun b mb => ?_⟩
        obtain ⟨q1, q2, u, q3, q4⟩ := k1.us b mb
        by_cases hb : b = a
        · rw [hb]; exact ⟨nf2, np2, _, hv, fun _ z => by cases z⟩
        · refine ⟨fun y => ?_, fun y => ?_, u, keep b mb hb u q3, q4⟩
          · rcases st.fn b y with y | y | y
            · exact q1 y
            · exact hb (List.mem_singleton.mp y)
            · rw [q3] at y; cases y
          · rcases st.pf b y with y | y
            · exact q2 y
            · rw [q3] at y; cases y
      exact z2 C2 H2 us ((s1.up (us' := us) (by simp)).trans st' fun y my => .inl my) (fun y my => .inl my) σ ok2
  · intro e2 n1 _ z C1 H1 cls dx' s1 w1 rx
    exact z C1 H1 us (s1.up (by simp)) (fun a m => .inl m) σ cls dx' (h.ok.q s1 w1) rx
end
def propD (cs : List Nat) (mf : List D → T D) : D → T D
  | .obj c fs => if c ∈ cs then (mf [.obj c fs]).noX else .fail
  | _ => .fail
section
variable {X : Cx} {G : GC} {W : WX} {k : Nat} {g : Addr} {fd : FuncData} {f : Str} {pos : Pos} {e : Expr} {mo : Env → T D} {mf : List D → T D} {cs : List Nat}
def tPropS (K : PySem.W.Frag) (f : Str) (g : Addr) (sp : Sp) (ta : TE) : TE := fun σ H Q => ta σ H fun x H1 => ∃ a A p dx fs, x = .ref a ∧ H1 a = some (.ins A dx fs) ∧ Cls K A ∧ PropOf K A f p g ∧ sp [.ref a] H1 Q E0
theorem pe_propS {sp : Sp} {ta : TE} {ps : List Str} (he : PE X e ta) (F : FnOk X.prog X.w X.K X.mg X.base (L2.CX X.prog X.w) k g fd ps sp) (hr : Room (k + 1) X.A) (hb : Binds X.K fd ps []) (hab : attributeBase e f X.env (eval e X.env) = eval e X.env := by rfl) : PE X (.Attribute e f pos) (tPropS X.K f g sp ta) := ⟨fun pins s σ H Q I h => attr_of hab (thn (he.run pins s σ H _ I h) fun u s1 hh => by
  obtain ⟨x, H1, I1, rx, a, A, p, dx, fs, ex, ea, c, hp, q⟩ := hh
  subst ex
  cases rx
  exact getprop_ok I1 ea c hp F hr hb .nil passL q)⟩
theorem s_prop (cs : List Nat) (hk : X.K = G.K) (hc : ∀ c ∈ cs, ∀ A, G.cA c = some A → Cls G.K A ∧ ∃ p, PropOf G.K A f p g) (F : FnOk X.prog X.w X.K X.mg X.base (L2.CX X.prog X.w) k g fd ["self"] (spM G 1 mf)) (hr : Room (k + 1) X.A) (hb : Binds X.K fd ["self"] [])
    (he : PE X e (tQ G W false mo)) (hab : attributeBase e f X.env (eval e X.env) = eval e X.env := by rfl) : PE X (.Attribute e f pos) (tQ G W false (q1 (propD cs mf) mo)) := by
  refine PE.imp (pe_propS he F hr hb hab) fun σ H Q h => ?_
  obtain ⟨C, n, env, us, h⟩ := h
  refine ⟨C, n, env, us, (h.bind (R := rV G false)).imp ?_⟩
  rintro v H1 ⟨C1, n1, d, s1, r1, h1⟩
  have r1 := r1.unview
  cases r1 <;> try exact h1.no.elim
  case obj p A dx c vs ds fp hp hA l =>
    replace h1 : At G W (rV G false) σ env us C1 n1 H1 (if c ∈ cs then (mf [.obj c ds]).noX else .fail) Q := h1
    by_cases hcs : c ∈ cs
    · rw [if_pos hcs] at h1
      obtain ⟨c1, q, c2⟩ := hc c hcs A hA
      rw [hk]
      refine ⟨p, A, q, dx, vs, rfl, hp, c1, c2, C1, n1, [.obj c ds], h1.ok.wf, .cons (.obj fp hp hA l) .nil, rfl, T.wp_mono (T.wp_noX (E' := fun _ _ => False) h1.wp) (fun d n' _ z C' H' v s w r => z C' H' v s w (r.view false)) (fun _ _ _ z => False.elim z)⟩
    · rw [if_neg hcs] at h1; exact h1.no.elim
end
end Pu
set_option Elab.async false
set_option linter.all false
set_option maxRecDepth 100000
set_option maxHeartbeats 4000000
namespace Pu
open PySem PySem.W
theorem neo_bind (self : Value) : bindSpecial (.builtin "object.__ne__") self = pure (.builtin "object.__ne__", [self]) :=
  (Slot.of (T := "object") (name := "__ne__") (owner := "object") (n := "__ne__") (by rw [typeLookup_type, builtinLookup_eq_fast]; kernel_rfl) (by decide +kernel) (by decide +kernel) (by decide +kernel) (.inl (by decide +kernel)) (by rw [isSubtype_type]; kernel_rfl)).bind self
theorem neo_plain : plainId "object.__ne__" = true := by decide +kernel
section
variable {prog : Program} {w : World} {A : Around} {E : Value → Shared → Prop} {s : Shared} {K : Frag} {h₀ : Heap} {L x C f : Addr} {ox : Obj} {od : Option Obj} {m : Str → Option Value} {b tb : Value}
theorem ne_try {Q : Option Value → Shared → Prop} (hu : A.units + 1 < cLine) (X : K.In s.heap) (I : InstAt s.heap x ox C od) (hs : findIn K (.ref C) "__ne__" = some (some (.builtin "object.__ne__"))) (he : findIn K (.ref C) "__eq__" = some (some (.ref f))) (hf : isFn K (.ref f) = true) (hm : subIn K (.ref C) (.type "object") = some true)
    (h : wpAny (model prog w) A.in1 (call (.ref f) [.ref x, b]) (fun v s' => ∃ k, v = .bool k ∧ Q (some (.bool (!k))) s') E s) : wpAny (model prog w) A (callSpecialIfBound? (.ref x) "__ne__" [b]) Q E s := by
  simp only [callSpecialIfBound?, bindSpecialIfBound?]
  refine wpAny_holding (wpAny_bind (wpAny_bind (wpAny_bind (I.type.here ((looks_findIn X hs).here ?_)))))
  refine wpAny_bind (wpAny_askSetting (wpAny_ite ?_))
  have fin : wpAny (model prog w) A (call (.builtin "object.__ne__") ([.ref x] ++ [b]) >>= fun v => pure (some v)) Q E s := by
    refine wpAny_bind (wpAny_call (codeAny_call_builtin neo_plain F.cmpEntry_ne (check_slot (owner := "object") (n := "__ne__") F.cmpKind_ne F.cmpSplit_ne (I.type.andThen (looks_subIn X hm)) (F.cmpArgs_ne _ _) ?_)))
    unfold Builtin.«object.__ne__»
    repeat (first
      | with_reducible refine wpAny_cRoomFor hu ?_
      | (refine wpAny_bind (m := callSpecialIfBound? (.ref x) (Str.ofString "__eq__") [b]) (ifBound_K X I he hf (wpAny_mono h (fun r s' hr => by
          obtain ⟨k, rfl, hq⟩ := hr
          repeat (first | exact hq | exact wpAny_pure hq | exact wpAny_truthy_bool hq | (refine wpAny_bind (m := truthy (.bool _)) (wpAny_truthy_bool ?_)) | wp_step)) fun _ _ e => e)))
      | wp_step)
  split
  · exact wpAny_bind (by rw [neo_bind]; exact wpAny_pure (wpAny_pure (by exact fin)))
  · exact wpAny_tryCatch (wpAny_bind (by rw [neo_bind]; exact wpAny_pure (wpAny_pure (by exact fin))))
end
end Pu
set_option Elab.async false
set_option linter.all false
set_option maxRecDepth 100000
set_option maxHeartbeats 4000000
namespace Pu
open PySem L2 Stp NdefX
open PyProof.Rows hiding St
def kt : D → Option KT
  | .non => some (.b "NoneType")
  | .bl _ => some (.b "bool")
  | .int _ => some (.b "int")
  | .str _ => some (.b "str")
  | .lst _ => some (.b "list")
  | .tup _ => some (.b "tuple")
  | .wt _ => some (.b "tuple")
  | .dK _ => some (.b "dict")
  | .dT _ => some (.b "dict")
  | .dN _ => some (.b "dict")
  | .scr => some (.b "list")
  | .bw _ => some (.b "list")
  | .obj c _ => if c < 100 then some (.c c) else none
  | .exc c _ => if c < 100 then none else some (.c c)
  | _ => none
def GC.ktV (G : GC) : KT → Option Value
  | .b n => some (.type n)
  | .c k => (G.cA k).map Value.ref
structure InsC (K : PySem.W.Frag) (C : Addr) : Prop where
  cl : Cls K C
  ca : PySem.W.findIn K (.ref C) "__class__" = some (some (.builtin "object.__class__"))
  cg : PySem.W.specialIn K (.builtin "object.__class__") "__get__" = some (some (.builtin "getset_descriptor.__get__"))
  ct : PySem.W.takesIn K (.builtin "object.__class__") = some true
  mo : PySem.W.mroIn K C (.type "object") = some true
structure IsxC (K : PySem.W.Frag) (D : Addr) : Prop where
  cl : (PySem.W.clsIn K D).isSome = true
  ga : PySem.W.findIn K (.ref D) "__getattribute__" = some (some (.builtin "BaseException.__getattribute__"))
  gg : PySem.W.findIn K (.ref D) "__getattr__" = some none
  ex : PySem.W.subIn K (.ref D) (.type "BaseException") = some true
  ca : PySem.W.findIn K (.ref D) "__class__" = some (some (.builtin "object.__class__"))
  cg : PySem.W.specialIn K (.builtin "object.__class__") "__get__" = some (some (.builtin "getset_descriptor.__get__"))
  ct : PySem.W.takesIn K (.builtin "object.__class__") = some true
  mo : PySem.W.mroIn K D (.type "object") = some true
structure TyF (G : GC) : Prop where
  ob : ∀ c A, c < 100 → G.cA c = some A → InsC G.K A
  ex : ∀ c A, ¬ c < 100 → G.cA c = some A → IsxC G.K A
def Kit (K : PySem.W.Frag) (h : Heap) (u t : Value) : Prop := ∃ P : Heap → Prop, PySem.W.KitX K u t P ∧ P h ∧ u ≠ .builtin "__main__.__loader__#opaque"
theorem kit_ty {X : Cx} {pins : List (Addr × Obj)} {σ : St} {H : Hp} {s : Shared} {G : GC} {C : Cf} {v : V} {u tv : Value} {d : D} {t : KT} (hk : X.K = G.K) (F : TyF G) (I : Inv X pins σ H s) (rv : RelV v u) (r : Rep G C H v d) (e : kt d = some t) (et : G.ktV t = some tv) : Kit X.K s.heap u tv := by
  cases r <;> try (cases e; done)
  case non => cases e; cases et; exact kit_of I rv (.base .non)
  case bl => cases e; cases et; exact kit_of I rv (.base (.bl _))
  case int => cases e; cases et; exact kit_of I rv (.base (.int _))
  case str => cases e; cases et; exact kit_of I rv (.base (.str _))
  case tup h l => cases e; cases et; exact kit_of I rv (.base (.tup h))
  case lst f h l => cases e; cases et; exact kit_of I rv (.base (.lst h))
  case dK f h l => cases e; cases et; exact kit_of I rv (.base (.dK h))
  case dT f h l => cases e; cases et; exact kit_of I rv (.base (.dT h))
  case dN a o vs ds f hp z l =>
    cases e; cases et
    cases (show u = Value.ref a from rv)
    exact ⟨_, PySem.W.kitx_dict, ⟨o, dnx_at I.hok hp, z.ed.1⟩, fun z => nomatch z⟩
  case scr h => cases e; cases et; obtain ⟨o, h⟩ := h; exact kit_of I rv (.base (.frz h))
  case bw h l => cases e; cases et; obtain ⟨o, h⟩ := h; exact kit_of I rv (.base (.frz h))
  case wt a vs ds h l =>
    cases e; cases et
    rcases h with (h | ⟨o, h⟩) | ⟨o, _, _, h1, h2, _⟩
    · cases h
    · cases h
    · exact kit_of I rv (.kTuple (by rw [hk]; exact h1) h2)
  case obj a A dx c vs ds f h hc l =>
    replace e : (if c < 100 then some (KT.c c) else none) = some t := e
    by_cases hl : c < 100
    · rw [if_pos hl] at e
      cases e
      have et : (G.cA c).map Value.ref = some tv := et
      rw [hc] at et
      cases et
      have Z := F.ob c A hl hc
      rw [← hk] at Z
      exact kit_of I rv (.base (.ins h Z.cl Z.ca Z.cg Z.ct Z.mo))
    · rw [if_neg hl] at e; cases e
  case exc a A c h hc =>
    replace e : (if c < 100 then none else some (KT.c c)) = some t := e
    by_cases hl : c < 100
    · rw [if_pos hl] at e; cases e
    · rw [if_neg hl] at e
      cases e
      have et : (G.cA c).map Value.ref = some tv := et
      rw [hc] at et
      cases et
      have Z := F.ex c A hl hc
      rw [← hk] at Z
      cases (show u = Value.ref a from rv)
      obtain ⟨⟨o, vs, ho, hd, hz1, hz2⟩, _⟩ := I.hok a _ h
      have J : PySem.W.InstAt s.heap a o A none := ⟨ho, hz1, by unfold PySem.W.notCls; rw [hd] <;> rfl, by rw [hz2]; trivial⟩
      exact ⟨_, PySem.W.kitx_exc Z.cl Z.ga Z.gg Z.ex Z.ca Z.cg Z.ct Z.mo, J, fun z => nomatch z⟩
def isiA (tb : KTab) (a : KT) : List D → Option Bool
  | [] => some false
  | .ty n :: l => (match tb a (.b n) with
    | some true => some true
    | some false => isiA tb a l
    | none => none)
  | .cls c :: l => (match tb a (.c c) with
    | some true => some true
    | some false => isiA tb a l
    | none => none)
  | _ :: _ => none
def isiD (tb : KTab) (x c : D) : Option Bool := match kt x with
  | none => none
  | some a => (match c with
    | .ty n => tb a (.b n)
    | .cls c => tb a (.c c)
    | .tup cs => isiA tb a cs
    | _ => none)
def isiF (tb : KTab) : List D → T D
  | [x, c] => (match isiD tb x c with
    | some b => .ret (.bl b)
    | none => .fail)
  | _ => .fail
def TbF (G : GC) (tb : KTab) : Prop := ∀ a b r, tb a b = some r → ∃ va vb, G.ktV a = some va ∧ G.ktV b = some vb ∧ PySem.W.kitOne G.K va vb = some r
theorem isiA_ok {G : GC} {tb : KTab} (hT : TbF G tb) {C : Cf} {H : Hp} {a : KT} {va : Value} (ea : G.ktV a = some va) : ∀ {vs : List V} {ds : List D} {us : List Value} {b : Bool}, RepL G C H vs ds → Vals vs us → isiA tb a ds = some b → PySem.W.kitAny G.K va us = some b
  | _, _, _, _, .nil, .nil, e => e
  | _, _, _, b, .cons (d := d) (ds := ds) r l, .cons rv t, e => by
    cases r <;> try (cases e; done)
    case ty n =>
      cases (show _ = Value.type n from rv)
      replace e : (match tb a (.b n) with | some true => some true | some false => isiA tb a ds | none => none) = some b := e
      cases q : tb a (.b n) with
      | none => rw [q] at e; cases e
      | some k =>
        obtain ⟨va', vb, e1, e2, e3⟩ := hT _ _ _ q
        rw [ea] at e1
        cases e1
        cases e2
        rw [q] at e
        refine kitAny_cons e3 (fun z => ?_) (fun z => ?_)
        · subst z; exact isiA_ok hT ea l t e
        · subst z; cases e; rfl
    case cls A c hc =>
      cases (show _ = Value.ref A from rv)
      replace e : (match tb a (.c c) with | some true => some true | some false => isiA tb a ds | none => none) = some b := e
      cases q : tb a (.c c) with
      | none => rw [q] at e; cases e
      | some k =>
        obtain ⟨va', vb, e1, e2, e3⟩ := hT _ _ _ q
        rw [ea] at e1
        cases e1
        have e2 : (G.cA c).map Value.ref = some vb := e2
        rw [hc] at e2
        cases e2
        rw [q] at e
        refine kitAny_cons e3 (fun z => ?_) (fun z => ?_)
        · subst z; exact isiA_ok hT ea l t e
        · subst z; cases e; rfl
section
variable {X : Cx} {G : GC} {W : WX} {b b1 : Bool} {tb : KTab} {e : Expr} {es : List Expr} {ml : Env → T (List D)} {p pos : Pos}
def rIsiU (G : GC) (tb : KTab) : List V → Hp → VK → Prop := fun xs H Q => ∃ C ds b, RepL G C H xs ds ∧ isiF tb ds = .ret (.bl b) ∧ Q (.bl b) H
theorem call_isiU (hk : X.K = G.K) (F : TyF G) (hT : TbF G tb) : CallR X (.builtin "isinstance") (rIsiU G tb) := by
  intro pins s σ H xs us Q I r h
  obtain ⟨C, ds, b, rl, e, q⟩ := h
  cases rl with
  | nil => cases e
  | @cons v vs d ds r1 rl =>
    cases rl with
    | nil => cases e
    | @cons v2 vs2 d2 ds2 r2 rl =>
      cases rl with
      | cons _ _ => cases e
      | nil =>
        obtain ⟨u1, u2, rfl, rv1, rv2⟩ := vals2 r
        replace e : (match isiD tb d d2 with | some b => T.ret (D.bl b) | none => .fail) = T.ret (D.bl b) := e
        cases qi : isiD tb d d2 with
        | none => rw [qi] at e; cases e
        | some k =>
          rw [qi] at e
          cases e
          unfold isiD at qi
          cases qk : kt d with
          | none => rw [qk] at qi; cases qi
          | some a =>
            rw [qk] at qi
            cases r2 <;> try (cases qi; done)
            case ty n =>
              obtain ⟨va, vb, e1, e2, e3⟩ := hT _ _ _ qi
              cases e2
              obtain ⟨P, Z, pz, hx⟩ := kit_ty hk F I rv1 r1 qk e1
              cases (show u2 = Value.type n from rv2)
              rw [← hk] at e3
              exact PySem.W.kia_one Z I.kIn pz e3 hx fun tk => ⟨.bl b, H, I.tok tk, rfl, q⟩
            case cls A c hc =>
              obtain ⟨va, vb, e1, e2, e3⟩ := hT _ _ _ qi
              have e2 : (G.cA c).map Value.ref = some vb := e2
              rw [hc] at e2
              cases e2
              obtain ⟨P, Z, pz, hx⟩ := kit_ty hk F I rv1 r1 qk e1
              cases (show u2 = Value.ref A from rv2)
              rw [← hk] at e3
              exact PySem.W.kia_one Z I.kIn pz e3 hx fun tk => ⟨.bl b, H, I.tok tk, rfl, q⟩
            case tup tp cs ds hT2 lc =>
              have hva : ∃ va, G.ktV a = some va := by
                cases r1 <;> try (cases qk; done)
                case obj f h hc l =>
                  rename_i c _ _
                  replace qk : (if c < 100 then some (KT.c c) else none) = some a := qk
                  by_cases hl : c < 100
                  · rw [if_pos hl] at qk; cases qk; exact ⟨_, by show (G.cA c).map Value.ref = _; rw [hc]; rfl⟩
                  · rw [if_neg hl] at qk; cases qk
                case exc c h hc =>
                  replace qk : (if c < 100 then none else some (KT.c c)) = some a := qk
                  by_cases hl : c < 100
                  · rw [if_pos hl] at qk; cases qk
                  · rw [if_neg hl] at qk; cases qk; exact ⟨_, by show (G.cA c).map Value.ref = _; rw [hc]; rfl⟩
                all_goals (cases qk; exact ⟨_, rfl⟩)
              obtain ⟨va, e1⟩ := hva
              obtain ⟨P, Z, pz, hx⟩ := kit_ty hk F I rv1 r1 qk e1
              cases (show u2 = Value.ref tp from rv2)
              obtain ⟨_, its, rv, o, h1, h2, n, h3⟩ := (show ObjOk X.prog X.w H s.heap tp (.tup cs) from I.hok tp _ hT2)
              obtain ⟨oc, od, dt, sl⟩ := o
              simp only at h2 h3
              subst h2 h3
              have e3 := isiA_ok hT e1 lc rv qi
              rw [← hk] at e3
              exact PySem.W.kia_tup Z I.kIn pz h1 e3 hx fun tk => ⟨.bl b, H, I.tok tk, rfl, q⟩
theorem s_isi (hk : X.K = G.K) (F : TyF G) (hT : TbF G tb) (hg : Gl X "isinstance") (hm : X.mg "isinstance" = none) (ha : PA X (e :: es) (tA G W b1 ml)) (he : starEach (e :: es) X.env = (false, eval e X.env) :: starEach es X.env := by rfl) (hpl : (backTo pos (starEach es X.env)).any (·.1) = false := by rfl) :
    PE X (.Call (.Name "isinstance" p) (e :: es) [] pos) (tQ G W false (qN (isiF tb) ml)) := by
  refine s_callB (call_isiU hk F hT) (fun σ env us C n H vs ds Q r h => ?_) hg hm (by decide +kernel) ha (by decide) (by decide) he hpl
  have z : ∃ k, isiF tb ds = .ret (.bl k) := by
    cases ds with
    | nil => exact h.no.elim
    | cons d ds =>
      cases ds with
      | nil => exact h.no.elim
      | cons d2 ds =>
        cases ds with
        | cons _ _ => exact h.no.elim
        | nil =>
          cases q : isiD tb d d2 with
          | none =>
            have h : At G W (rV G false) σ env us C n H (match isiD tb d d2 with | some b => T.ret (D.bl b) | none => .fail) Q := h
            rw [q] at h
            exact h.no.elim
          | some k => exact ⟨k, by show (match isiD tb d d2 with | some b => T.ret (D.bl b) | none => .fail) = _; rw [q]⟩
  obtain ⟨k, z⟩ := z
  rw [z] at h
  exact ⟨_, ds, k, r, z, h.ret (.bl k)⟩
end
end Pu
set_option Elab.async false
set_option linter.all false
set_option maxRecDepth 100000
set_option maxHeartbeats 4000000
namespace Pu
section
open PySem PySem.W
variable {prog : Program} {w : World} {A : Around} {E : Value → Shared → Prop} {s : Shared} {K : Frag} {x C f : Addr} {ox : Obj} {od : Option Obj} {b tb : Value}
theorem cmp_one {op : CmpOp} {Q : Value → Shared → Prop} (hu : A.units < cLine) (X : K.In s.heap) (I : InstAt s.heap x ox C od) (hb : Looks (model prog w) s.heap (typeOf b) tb) (hn : notFirst K C tb = true)
    (one : wpAny (model prog w) A (tryCompare (.ref x) (cmpInfo op).2.1 b) (fun r s' => ∃ v, r = some v ∧ Q v s') E s) : wpAny (model prog w) A (richCompare op (.ref x) b) Q E s := by
  unfold richCompare
  simp only [oneThing_ref]
  refine wpAny_holding (wpAny_bind (wpAny_cRoomFor hu ?_))
  refine wpAny_bind (I.type.here (wpAny_bind (hb.here ?_)))
  split
  · rename_i q
    have e : subIn K tb (.ref C) = some false := by
      rcases Bool.or_eq_true_iff.mp hn with e | e
      · rw [beq_iff_eq.mp e] at q; simp at q
      · exact beq_iff_eq.mp e
    refine wpAny_bind ((looks_subIn X e).here ?_)
    simp only [Bool.false_eq_true, if_false]
    refine wpAny_bind (wpAny_mono one (fun r s' z => ?_) fun _ _ e => e)
    obtain ⟨v, rfl, hq⟩ := z
    exact wpAny_pure hq
  · refine wpAny_bind (wpAny_pure ?_)
    simp only [Bool.false_eq_true, if_false]
    refine wpAny_bind (wpAny_mono one (fun r s' z => ?_) fun _ _ e => e)
    obtain ⟨v, rfl, hq⟩ := z
    exact wpAny_pure hq
end
open PySem L2 Stp NdefX
open PyProof.Rows hiding St
/-- the class at A has its own ==, told apart from these kinds -/
structure EqC (G : GC) (A g : Addr) (tys : List KT) : Prop where
  eq : PySem.W.findIn G.K (.ref A) "__eq__" = some (some (.ref g))
  fn : PySem.W.isFn G.K (.ref g) = true
  ne : PySem.W.findIn G.K (.ref A) "__ne__" = some (some (.builtin "object.__ne__"))
  ob : PySem.W.subIn G.K (.ref A) (.type "object") = some true
  nf : ∀ t ∈ tys, ∃ tv, G.ktV t = some tv ∧ PySem.W.notFirst G.K A tv = true
/-- == (or !=) of an object of class c -/
def rOE (G : GC) (tys : List KT) (c : Nat) (mf : List D → T D) (neg : Bool) : R2 := fun x y H Q => ∃ C n fs e t, Wf G C n H ∧ Rep G C H x (.obj c fs) ∧ Rep G C H y e ∧ kt e = some t ∧ t ∈ tys ∧
  (mf [.obj c fs, e]).wp n (fun d n' => ∀ C' H' v, Step [] C H C' H' → Wf G C' n' H' → Rep G C' H' v d → ∃ k, v = .bl k ∧ Q (.bl (if neg then !k else k)) H') (fun _ _ => False)
section
variable {X : Cx} {G : GC} {tys : List KT} {c k : Nat} {mf : List D → T D} {A g : Addr} {fd : FuncData} {ps : List Str}
theorem run_eq {pins : List (Addr × Obj)} {s : Shared} {σ : St} {H : Hp} {y : V} {u : Value} {a : Addr} {A' : Around} {C : Cf} {n : Nat} {fs : List (Str × D)} {e : D} {P : Bool → Hp → Prop}
    (F : FnOk X.prog X.w X.K X.mg X.base (L2.CX X.prog X.w) k g fd ["self", "other"] (spM G 2 mf)) (hr : Room k A') (hf : A'.frames = X.A.frames) (hb : Binds X.K fd ["self", "other"] []) (I : Inv X pins σ H s) (ry : RelV y u) (wf : Wf G C n H) (r1 : Rep G C H (.ref a) (.obj c fs)) (r2 : Rep G C H y e)
    (w : (mf [.obj c fs, e]).wp n (fun d n' => ∀ C' H' v, Step [] C H C' H' → Wf G C' n' H' → Rep G C' H' v d → ∃ k, v = .bl k ∧ P k H') (fun _ _ => False)) :
    wpAny (model X.prog X.w) A' (call (.ref g) [.ref a, u]) (fun v s' => ∃ k H', v = .bool k ∧ Inv X pins σ H' s' ∧ P k H') X.xe s := by
  have hsp : spM G 2 mf [.ref a, y] H (fun v H' => ∃ k, v = .bl k ∧ P k H') E0 := ⟨C, n, _, wf, .cons r1 (.cons r2 .nil), rfl, T.wp_mono w (fun _ _ _ z => z) (fun _ _ _ z => False.elim z)⟩
  have e0 : Env0 X.prog X.w X.K X.mg X.base A' X.stack s H := by
    have e := I.env0
    exact ⟨by rw [hf]; exact e.frames, e.mod, e.bs, e.bsz, e.funs, e.frf, e.hok, e.bare⟩
  have b := hb s [.ref a, u] I.kIn rfl
  refine wpAny_call (codeAny_mono (F.run A' X.stack s H ⟨[.ref a, u], []⟩ [.ref a, u] [.ref a, y] _ E0 hr e0 b (.cons rfl (.cons ry .nil)) hsp) fun r s' hq => ?_)
  cases r with
  | error e => exact False.elim (passL (X := X.nox) pins σ H s e s' (I.wish _) hq)
  | ok fl =>
    cases fl with
    | ret w =>
      obtain ⟨z, H', I', rz, k, ez, q⟩ := I.after hq
      subst ez
      cases rz
      exact ⟨k, H', rfl, I', q⟩
    | next => exact False.elim hq
    | brk => exact False.elim hq
    | cont => exact False.elim hq
theorem op_on (hk : X.K = G.K) (TF : TyF G) (hA : G.cA c = some A) (E : EqC G A g tys) (F : FnOk X.prog X.w X.K X.mg X.base (L2.CX X.prog X.w) k g fd ["self", "other"] (spM G 2 mf)) (hr : Room (k + 1) X.A) (hb : Binds X.K fd ["self", "other"] []) : OpR X (compareOp .NotEq) (rOE G tys c mf true) := by
  intro pins s σ H x y v u Q I rx ry h
  obtain ⟨C, n, fs, e, t, wf, r1, r2, et, mt, w⟩ := h
  cases r1 with
  | @obj a A2 dx _ vs _ fp hp hc l =>
    rw [hA] at hc
    cases hc
    cases (show v = Value.ref a from rx)
    obtain ⟨mA, J, _⟩ := ins_get I.hok hp
    obtain ⟨od, J, _⟩ := J.look
    obtain ⟨tv, ev, nf⟩ := E.nf t mt
    obtain ⟨P, Z, pz, hx⟩ := kit_ty hk TF I ry r2 et ev
    show wpAny (model X.prog X.w) X.A (richCompare .NotEq (.ref a) u) (EP X pins σ Q) X.xe s
    refine cmp_one (op := .NotEq) (tb := tv) (Room.mono hr (Nat.zero_le _)).units0 I.kIn J (Z.ty _ _ I.kIn pz) (by rw [hk]; exact nf) ?_
    unfold tryCompare
    refine wpAny_bind (ne_try (A := X.A) (K := X.K) (by have := hr.un; omega) I.kIn J (by rw [hk]; exact E.ne) (by rw [hk]; exact E.eq) (by rw [hk]; exact E.fn) (by rw [hk]; exact E.ob) ?_)
    refine wpAny_mono (run_eq F hr.in1 rfl hb I ry wf (.obj fp hp hA l) r2 w) (fun r s' z => ?_) fun _ _ z => z
    obtain ⟨b, H', rfl, I', q⟩ := z
    exact ⟨b, rfl, wpAny_pure ⟨_, rfl, .bl (!b), H', I', rfl, q⟩⟩
end
abbrev EqL := List (Nat × (List D → T D))
def EqL.look : EqL → Nat → Option (List D → T D)
  | [], _ => none
  | (k, m) :: L, c => if k = c then some m else EqL.look L c
def boolT (neg : Bool) : D → T D
  | .bl k => .ret (.bl (if neg then !k else k))
  | _ => .fail
def oeD (neg : Bool) (L : EqL) (tys : List KT) (c : Nat) (fs : List (Str × D)) (e : D) : T D := match L.look c, kt e with
  | some mf, some t => if t ∈ tys then (mf [.obj c fs, e]).noX.bind (boolT neg) else .fail
  | _, _ => .fail
def neU (L : EqL) (tys : List KT) : D → D → T D
  | .obj c fs, e => oeD true L tys c fs e
  | d, e => neD d e
def rOEL (G : GC) (tys : List KT) (L : EqL) (neg : Bool) : R2 := fun x y H Q => ∃ c mf, L.look c = some mf ∧ rOE G tys c mf neg x y H Q
theorem oel_nil {X : Cx} {G : GC} {tys : List KT} {neg : Bool} {f : Value → Value → Sem Value} : OpR X f (rOEL G tys [] neg) := by
  intro pins s σ H x y v u Q I rx ry h
  obtain ⟨c, mf, e, _⟩ := h
  cases e
theorem oel_cons {X : Cx} {G : GC} {tys : List KT} {neg : Bool} {f : Value → Value → Sem Value} {c : Nat} {mf : List D → T D} {L : EqL} (h1 : OpR X f (rOE G tys c mf neg)) (h2 : OpR X f (rOEL G tys L neg)) : OpR X f (rOEL G tys ((c, mf) :: L) neg) := by
  intro pins s σ H x y v u Q I rx ry h
  obtain ⟨k, m, e, h⟩ := h
  unfold EqL.look at e
  by_cases hc : c = k
  · rw [if_pos hc] at e
    cases e
    subst hc
    exact h1 pins s σ H x y v u Q I rx ry h
  · rw [if_neg hc] at e
    exact h2 pins s σ H x y v u Q I rx ry ⟨k, m, e, h⟩
section
variable {X : Cx} {G : GC} {W : WX} {ma mb : Env → T D} {a c : Expr} {pos : Pos} {L : EqL} {tys : List KT}
theorem oe_hf {neg : Bool} {σ : St} {env : Env} {us : List Addr} {C : Cf} {n : Nat} {H : Hp} {x y : V} {k : Nat} {fs : List (Str × D)} {e : D} {Q : VK} (r1 : Rep G (C.vw false) H x (.obj k fs)) (r2 : Rep G (C.vw false) H y e) (h : At G W (rV G false) σ env us C n H (oeD neg L tys k fs e) Q) : rOEL G tys L neg x y H Q := by
  unfold oeD at h
  cases q1 : L.look k with
  | none => rw [q1] at h; exact h.no.elim
  | some mf =>
    cases q2 : kt e with
    | none => rw [q1, q2] at h; exact h.no.elim
    | some t =>
      rw [q1, q2] at h
      dsimp only at h
      by_cases ht : t ∈ tys
      · rw [if_pos ht] at h
        refine ⟨k, mf, q1, C, n, fs, e, t, h.ok.wf, r1.unview, r2.unview, q2, ht, T.wp_mono (T.wp_noX (E' := fun _ _ => False) (T.wp_bind h.wp)) (fun d n' _ z C' H' v s w r => ?_) (fun _ _ _ z => False.elim z)⟩
        cases r <;> try exact False.elim z
        exact ⟨_, rfl, z C' H' _ s w (.bl _)⟩
      · rw [if_neg ht] at h; exact h.no.elim
def rNeU (G : GC) (tys : List KT) (L : EqL) : R2 := fun x y H Q => rOEL G tys L true x y H Q ∨ rNe2 G.K x y H Q
theorem neU_hf {σ : St} {env : Env} {us : List Addr} {C : Cf} {n : Nat} {H : Hp} {x y : V} {d e : D} {Q : VK} (r1 : Rep G (C.vw false) H x d) (r2 : Rep G (C.vw false) H y e) (h : At G W (rV G false) σ env us C n H (neU L tys d e) Q) : rNeU G tys L x y H Q := by
  cases d <;> first | exact .inl (oe_hf r1 r2 h) | exact .inr (ne_hf rfl r1 r2 h)
theorem t_neU (hk : X.K = G.K) (hu : X.A.units + 64 < cLine) (hL : OpR X (compareOp .NotEq) (rOEL G tys L true)) (ha : PE X a (tQ G W false ma)) (hb : PE X c (tQ G W false mb)) : PT X (.Compare a [.NotEq] [c] pos) (tT G W (tb1 (q2 (neU L tys) ma mb) truB)) :=
  t_cmp (OpR.or hL (hk ▸ op_ne2 hu)) (fun σ env us C n H x y d e Q r1 r2 h => neU_hf r1 r2 h) ha hb (nomark _)
end
end Pu
set_option Elab.async false
set_option linter.all false
set_option maxRecDepth 100000
set_option maxHeartbeats 4000000
namespace Pu
open PySem L2 Stp NdefX LamX
open PyProof.Rows hiding St
def LamD.nf (L : LamD) (cl : List (Str × Addr)) (c' : Addr) : NF := ⟨"<lambda>", L.qual, L.params, [], L.scope, cl, c'⟩
def LamO (f : Addr) (L : LamD) (cl : List (Str × Addr)) (c' : Addr) : HO := .ext fun h => ∃ (od : Option Addr) (sl : Array (Option Value)) (pm ctv : Value), h.get? f = some (⟨.type "function", od, .func (PySem.W.kla_fn "<lambda>" L.qual L.params L.body L.scope cl pm (.ref c') ctv), sl⟩ : Obj)
theorem lamO_at {P : Program} {w : World} {H : Hp} {h : Heap} {f c' : Addr} {L : LamD} {cl : List (Str × Addr)} (hok : HOk P w H h) (e : H f = some (LamO f L cl c')) : ∃ (od : Option Addr) (sl : Array (Option Value)) (pm ctv : Value), h.get? f = some (⟨.type "function", od, .func (PySem.W.kla_fn "<lambda>" L.qual L.params L.body L.scope cl pm (.ref c') ctv), sl⟩ : Obj) := by
  obtain ⟨z, _, _⟩ := hok f _ e
  exact z
section
variable {X : Cx} {pins : List (Addr × Obj)} {σ : L2.St} {H : Hp} {s : Shared}
theorem inv_lam {L : LamD} {cl : List (Str × Addr)} {c' : Addr} {o : Obj} {t' : Nat} {pm ctv : Value} {h' : Heap} (I : Inv X pins σ H { s with heap := h' }) (ho : o = PySem.W.kla_obj "<lambda>" L.qual L.params L.body L.scope cl pm c' ctv) :
    Inv X pins σ (upd H h'.objs.size (LamO h'.objs.size L cl c')) { s with heap := h'.push o, toks := t' } := by
  subst ho
  refine Inv.laid (s := { s with heap := h' }) (t' := t') I (a := h'.objs.size) (fun b u e => Heap.get?_push_of_some _ e) (Nat.le_refl _) ?_
  have e : (h'.push (PySem.W.kla_obj "<lambda>" L.qual L.params L.body L.scope cl pm c' ctv)).get? h'.objs.size = some (PySem.W.kla_obj "<lambda>" L.qual L.params L.body L.scope cl pm c' ctv) := Heap.get?_push_size _ rfl
  exact ⟨⟨_, _, pm, ctv, e⟩, ⟨_, e⟩, fun h1 h2 ⟨od, sl, p, t, z⟩ st => ⟨od, sl, p, t, st _ z⟩⟩
theorem lam_new {T : List NTab} {nm : Nat → Nat → Str} {c P : Addr} {L : LamD} {pos : Pos} {E : Value → Shared → Prop} {Q : Value → Shared → Prop} (I : Inv X pins σ H s) (TB : TabB X.base X.mg c P) (hcode : X.env.code = .ref c) (hq : L.qual = X.env.qual ++ "<lambda>")
    (hm : (P, nm) ∈ T) (hn : nm pos.line pos.col = L.qual) (hu : ∀ p ∈ T, p.1 = P → p.2 = nm) (hT : TabsN T H) (hdef : defaultsOf L.params X.env = ([], [])) (hfree : ∀ y ∈ L.scope.names, y.2 = .free → ∃ c, X.env.cells.lookup y.1 = some c)
    (h : ∀ (f c' : Addr) (H1 : Hp) (s' : Shared), Inv X pins σ H1 s' → ExtN H H1 → (∀ b, H1 b = Option.none → H b = Option.none) → TabsN T H1 → H f = none → H1 f = some (LamO f L (cloFrom X.env.cells L.scope.names []) c') → H1 c' = some (CodeO c' L.qual) → Q (.ref f) s') :
    wpAny (model X.prog X.w) X.A (eval (.Lambda L.params L.body L.scope pos) X.env) Q E s := by
  obtain ⟨ps, hP, ht, ha⟩ := (show TabN H P nm from hT _ hm)
  refine PySem.W.kla_eval hdef ?_
  have bP : s.heap.BuiltinsAt X.mg P := TB.bm.keeps I.bk
  have hP' : s.heap.get? P = some { cls := .none, data := .fields ps } := I.hok P _ hP
  cases hc : codeAmong pos ps.toList with
  | none =>
    refine PySem.W.kla_makeFunction (mg := X.mg) (c := c) (P := P) (ps := ps) (closure_ok hfree) I.ok.glob (I.mod.glob.keeps I.bk) hcode (TB.code.keeps I.bk) hP' ht hc TB.gP bP fun c' ctv h' tk hx hge hlt hrec htb => ?_
    rw [← hq]
    obtain ⟨c2, oc, vs, t, e2, hoc, hd, hv⟩ := hrec
    rw [← hq] at hv
    cases e2
    have nC : H c' = none := I.hok.fresh hge
    have I1 := inv_table (q := L.qual) (t' := tk) (more := #[rawInt pos.line, rawInt pos.col, .ref c']) (h' := h') I hP (fun b o hb e => hx b o hb e) htb hge ⟨oc, vs, t, hoc, hd, hv⟩
    have hE : ExtN H (upd (upd H P (.tbl (ps ++ #[rawInt pos.line, rawInt pos.col, .ref c']))) c' (CodeO c' L.qual)) := fun b o e n => by
      rw [upd_ne (ne_of_none e nC), upd_ne (fun z => n ps (Option.some.inj (e.symm.trans (by rw [z]; exact hP))))]
      exact e
    have eL : (ps ++ #[rawInt pos.line, rawInt pos.col, .ref c']).toList = ps.toList ++ [rawInt pos.line, rawInt pos.col, .ref c'] := by simp
    have T1 : TabsN T (upd (upd H P (.tbl (ps ++ #[rawInt pos.line, rawInt pos.col, .ref c']))) c' (CodeO c' L.qual)) := fun p hp => by
      by_cases hb : p.1 = P
      · rw [hu p hp hb, hb]
        refine ⟨_, by rw [upd_ne (ne_of_none hP nC), upd_same], by rw [eL]; exact PySem.TriplesOk_snoc _ _ _ _ ht, fun p' cv hcv => ?_⟩
        rw [eL] at hcv
        rcases among_app2 _ ht hcv with z | ⟨z, z1, z2⟩
        · obtain ⟨c0, e1, e2⟩ := ha p' cv z
          exact ⟨c0, e1, hE _ _ e2 codeO_ne⟩
        · refine ⟨c', z, ?_⟩
          rw [← z1, ← z2, hn]
          exact upd_same
      · obtain ⟨ps', a1, a2, a3⟩ := hT p hp
        refine ⟨ps', by rw [upd_ne (ne_of_none a1 nC), upd_ne hb]; exact a1, a2, fun p' cv hcv => ?_⟩
        obtain ⟨c0, e1, e2⟩ := a3 p' cv hcv
        exact ⟨c0, e1, hE _ _ e2 codeO_ne⟩
    have nF : upd (upd H P (.tbl (ps ++ #[rawInt pos.line, rawInt pos.col, .ref c']))) c' (CodeO c' L.qual) h'.objs.size = none := I1.hok.fresh (Nat.le_refl _)
    have I2 := inv_lam (s := { s with toks := tk }) (L := L) (cl := cloFrom X.env.cells L.scope.names []) (c' := c') (t' := tk) (pm := (X.mg "__name__").getD .none) (ctv := ctv) I1 rfl
    refine h h'.objs.size c' _ _ I2 (fun b o e n => ?_) (fun b e => upd_none (upd_none (upd_none e))) (T1.ext fun b o e => ?_) (I.hok.fresh (Nat.le_trans hge (Nat.le_of_lt hlt))) upd_same ?_
    · have e1 := hE b o e n
      exact (upd_ne (ne_of_none e1 nF)).trans e1
    · exact (upd_ne (ne_of_none e nF)).trans e
    · exact (upd_ne (Nat.ne_of_lt hlt)).trans upd_same
  | some cv =>
    obtain ⟨c', e, hco⟩ := ha pos cv hc
    subst e
    rw [hn] at hco
    refine PySem.W.kla_makeFunctionHit (mg := X.mg) (c := c) (P := P) (ps := ps) (closure_ok hfree) I.ok.glob (I.mod.glob.keeps I.bk) hcode (TB.code.keeps I.bk) hP' ht hc bP fun ctv h' tk hx hsz => ?_
    rw [← hq]
    have I1 : Inv X pins σ H { s with heap := h', toks := tk } := I.kept hx
    have nF : H h'.objs.size = none := I1.hok.fresh (Nat.le_refl _)
    have I2 := inv_lam (s := { s with toks := tk }) (L := L) (cl := cloFrom X.env.cells L.scope.names []) (c' := c') (t' := tk) (pm := (X.mg "__name__").getD .none) (ctv := ctv) I1 rfl
    refine h h'.objs.size c' _ _ I2 (fun b o e n => ?_) (fun b e => upd_none e) (hT.ext fun b o e => ?_) nF upd_same ?_
    · exact (upd_ne (ne_of_none e nF)).trans e
    · exact (upd_ne (ne_of_none e nF)).trans e
    · exact (upd_ne (ne_of_none hco nF)).trans hco
end
def CellX (c : Addr) (o : Obj) : HO := .ext fun h => h.get? c = some o
theorem cellX_ok {P : Program} {w : World} {H : Hp} {h : Heap} {c : Addr} {o : Obj} (e : h.get? c = some o) : ObjOk P w H h c (CellX c o) := ⟨e, ⟨o, e⟩, fun _ _ e st => st _ e⟩
theorem cellX_at {P : Program} {w : World} {H : Hp} {h : Heap} {c : Addr} {o : Obj} (hok : HOk P w H h) (e : H c = some (CellX c o)) : h.get? c = some o := by
  obtain ⟨z, _⟩ := hok c _ e
  exact z
abbrev CL := List (Addr × Obj)
theorem keep_lam {f c' : Addr} {L : LamD} {cl : List (Str × Addr)} : Keep f (fun h => ∃ (od : Option Addr) (sl : Array (Option Value)) (pm ctv : Value), h.get? f = some (⟨.type "function", od, .func (PySem.W.kla_fn "<lambda>" L.qual L.params L.body L.scope cl pm (.ref c') ctv), sl⟩ : Obj)) := fun h ⟨_, _, _, _, e⟩ => ⟨_, e, fun es ep z => by cases z⟩
theorem keep_cell {c : Addr} {o : Obj} (hc : ∃ v, o.data = .cell v) : Keep c (fun h => h.get? c = some o) := fun h e => ⟨o, e, fun es ep z => by obtain ⟨v, hv⟩ := hc; rw [hv] at z; cases z⟩
/-- with the cells known / without -/
def msk (H : Hp) (cs : CL) : Hp := fun a => match cs.lookup a with
  | some o => some (CellX a o)
  | none => H a
def unm (H : Hp) (cs : CL) : Hp := fun a => match cs.lookup a with
  | some _ => none
  | none => H a
section
variable {H H' : Hp} {cs : CL} {a : Addr} {o : HO} {ob : Obj}
theorem msk_in (e : cs.lookup a = some ob) : msk H cs a = some (CellX a ob) := by unfold msk; rw [e]
theorem msk_out (e : cs.lookup a = none) : msk H cs a = H a := by unfold msk; rw [e]
theorem unm_in (e : cs.lookup a = some ob) : unm H cs a = none := by unfold unm; rw [e]
theorem unm_out (e : cs.lookup a = none) : unm H cs a = H a := by unfold unm; rw [e]
theorem unm_some (e : unm H cs a = some o) : cs.lookup a = none ∧ H a = some o := by
  cases q : cs.lookup a with
  | none => rw [unm_out q] at e; exact ⟨rfl, e⟩
  | some ob => rw [unm_in q] at e; cases e
end
/-- all of cs are known in H -/
def Kn (H : Hp) (cs : CL) : Prop := ∀ a o, cs.lookup a = some o → H a = some (CellX a o)
def Un0 (H : Hp) (cs : CL) : Prop := ∀ a o, cs.lookup a = some o → H a = none
section
variable {P : Program} {w : World} {H H' : Hp} {h h' : Heap} {cs : CL} {fs : List Addr}
theorem Kn.out (k : Kn H cs) {a : Addr} {o : HO} (e : H a = some o) (ne : ∀ φ, o ≠ .ext φ) : cs.lookup a = none := by
  cases q : cs.lookup a with
  | none => rfl
  | some ob =>
    rw [k a ob q] at e
    cases e
    exact absurd rfl (ne _)
theorem Un0.out (k : Un0 H cs) {a : Addr} {o : HO} (e : H a = some o) : cs.lookup a = none := by
  cases q : cs.lookup a with
  | none => rfl
  | some ob => rw [k a ob q] at e; cases e
theorem hok_unm (hok : HOk P w H h) (k : Kn H cs) : HOk P w (unm H cs) h := fun a o e => by
  obtain ⟨q, e⟩ := unm_some e
  exact (hok a o e).stay (fun _ _ _ z => z) (fun b z => by rw [unm_out (k.out z fun _ z => by cases z)]; exact z) (fun b xs z => by rw [unm_out (k.out z fun _ z => by cases z)]; exact z)
theorem hok_msk (hok : HOk P w H h) (k : Un0 H cs) (hc : ∀ a o, cs.lookup a = some o → h.get? a = some o) : HOk P w (msk H cs) h := fun a o e => by
  cases q : cs.lookup a with
  | some ob =>
    rw [msk_in q] at e
    cases e
    exact cellX_ok (hc a ob q)
  | none =>
    rw [msk_out q] at e
    exact (hok a o e).stay (fun _ _ _ z => z) (fun b z => by rw [msk_out (k.out z)]; exact z) (fun b xs z => by rw [msk_out (k.out z)]; exact z)
/-- a call with the cells known, read without -/
theorem un_of_msk (un : Un fs [] (msk H cs) H' h h') (k0 : Un0 H cs) (hc : ∀ a o, cs.lookup a = some o → h.get? a = some o) (k' : Kn H' cs) (hok : HOk P w H' h') : Un fs [] H (unm H' cs) h h' := by
  have kc : ∀ a o, cs.lookup a = some o → h'.get? a = some o := fun a o e => cellX_at hok (k' a o e)
  refine ⟨fun b o e n hb hx => ?_, fun b o e n hb hx => ?_, fun b o e n hx => ?_, un.there, fun b xs e => ?_, fun b o u e => ?_, fun b ps e => ?_⟩
  · cases q : cs.lookup b with
    | some ob =>
      have z := hc b ob q
      rw [e] at z
      cases z
      exact kc b o q
    | none => exact un.keep b o e (by rw [msk_out q]; exact n) hb hx
  · cases q : cs.lookup b with
    | some ob =>
      have z := hc b ob q
      rw [e] at z
      cases z
      exact ⟨o.slots, kc b o q⟩
    | none => exact un.slot b o e (by rw [msk_out q]; exact n) hb hx
  · cases q : cs.lookup b with
    | some ob => exact unm_in q
    | none => rw [unm_out q]; exact un.free b o e (by rw [msk_out q]; exact n) hx
  · have q := k0.out e
    rw [unm_out q]
    exact un.tups b xs (by rw [msk_out q]; exact e)
  · have q := k0.out e
    rw [unm_out q]
    exact un.frzs b o u (by rw [msk_out q]; exact e)
  · have q := k0.out e
    rw [unm_out q]
    exact un.tbls b ps (by rw [msk_out q]; exact e)
/-- a call without the cells, read with them -/
theorem un_of_unm (un : Un fs [] (unm H cs) H' h h') (k : Kn H cs) : Un fs [] H (msk H' cs) h h' := by
  have nn : ∀ b, H b = none → cs.lookup b = none := fun b n => by
    cases q : cs.lookup b with
    | none => rfl
    | some ob => rw [k b ob q] at n; cases n
  refine ⟨fun b o e n hb hx => un.keep b o e (by rw [unm_out (nn b n)]; exact n) hb hx, fun b o e n hb hx => un.slot b o e (by rw [unm_out (nn b n)]; exact n) hb hx, fun b o e n hx => ?_, un.there, fun b xs e => ?_, fun b o u e => ?_, fun b ps e => ?_⟩
  · rw [msk_out (nn b n)]
    exact un.free b o e (by rw [unm_out (nn b n)]; exact n) hx
  · have q := k.out e fun _ z => by cases z
    rw [msk_out q]
    exact un.tups b xs (by rw [unm_out q]; exact e)
  · have q := k.out e fun _ z => by cases z
    rw [msk_out q]
    exact un.frzs b o u (by rw [unm_out q]; exact e)
  · have q := k.out e fun _ z => by cases z
    rw [msk_out q]
    exact un.tbls b ps (by rw [unm_out q]; exact e)
end
end Pu
set_option Elab.async false
set_option linter.all false
set_option maxRecDepth 100000
set_option maxHeartbeats 4000000
namespace Pu
open PySem L2 Stp NdefX LamX
open PyProof.Rows hiding St
section
variable {P : Program} {w : World} {H H' : Hp} {cs : CL} {outer : List PySem.Env} {s s' : Shared} {E E2 : XK} {u : Value}
theorem cx_of_msk (c : L2.CX P w outer (msk H cs) s E u s') (k0 : Un0 H cs) (hc : ∀ a o, cs.lookup a = some o → s.heap.get? a = some o) (hE : ∀ cls d H' B, HOk P w H' B → E cls d H' → Kn H' cs ∧ E2 cls d (unm H' cs)) : L2.CX P w outer H s E2 u s' := by
  obtain ⟨a, B, H', cls, d, hu, fl, hok, ub, na, os, ag, e⟩ := c
  obtain ⟨k', e2⟩ := hE _ _ _ B hok e
  have kc : ∀ a o, cs.lookup a = some o → B.get? a = some o := fun a o e => cellX_at hok (k' a o e)
  refine ⟨a, B, unm H' cs, cls, d, hu, fl, hok_unm hok k', ⟨fun b o e n hb => ?_, ub.slot, fun b o e n => ?_, ub.there, fun b xs e => ?_, fun b o u e => ?_, fun b ps e => ?_⟩, ?_, os, ag, e2⟩
  · cases q : cs.lookup b with
    | some ob =>
      have z := hc b ob q
      rw [e] at z
      cases z
      exact kc b o q
    | none => exact ub.keep b o e (by rw [msk_out q]; exact n) hb
  · cases q : cs.lookup b with
    | some ob => exact unm_in q
    | none => rw [unm_out q]; exact ub.free b o e (by rw [msk_out q]; exact n)
  · have q := k0.out e
    rw [unm_out q]
    exact ub.tups b xs (by rw [msk_out q]; exact e)
  · have q := k0.out e
    rw [unm_out q]
    exact ub.frzs b o u (by rw [msk_out q]; exact e)
  · have q := k0.out e
    rw [unm_out q]
    exact ub.tbls b ps (by rw [msk_out q]; exact e)
  · cases q : cs.lookup a with
    | some ob => exact unm_in q
    | none => rw [unm_out q]; exact na
theorem cx_of_unm (c : L2.CX P w outer (unm H cs) s E u s') (k : Kn H cs) (hok0 : HOk P w H s.heap) (hf : ∀ a o, cs.lookup a = some o → a ∉ frs outer) (hE : ∀ cls d H', Un0 H' cs → E cls d H' → E2 cls d (msk H' cs)) : L2.CX P w outer H s E2 u s' := by
  obtain ⟨a, B, H', cls, d, hu, fl, hok, ub, na, os, ag, e⟩ := c
  have nn : ∀ b, H b = none → cs.lookup b = none := fun b n => by
    cases q : cs.lookup b with
    | none => rfl
    | some ob => rw [k b ob q] at n; cases n
  have k0 : Un0 H' cs := fun b ob q => ub.free b ob (cellX_at hok0 (k b ob q)) (unm_in q)
  have kc : ∀ a o, cs.lookup a = some o → B.get? a = some o := fun b ob q => ub.keep b ob (cellX_at hok0 (k b ob q)) (unm_in q) (hf b ob q)
  refine ⟨a, B, msk H' cs, cls, d, hu, fl, hok_msk hok k0 kc, ⟨fun b o e n hb => ub.keep b o e (by rw [unm_out (nn b n)]; exact n) hb, ub.slot, fun b o e n => ?_, ub.there, fun b xs e => ?_, fun b o u e => ?_, fun b ps e => ?_⟩, ?_, os, ag, hE _ _ _ k0 e⟩
  · rw [msk_out (nn b n)]
    exact ub.free b o e (by rw [unm_out (nn b n)]; exact n)
  · have q := k.out e fun _ z => by cases z
    rw [msk_out q]
    exact ub.tups b xs (by rw [unm_out q]; exact e)
  · have q := k.out e fun _ z => by cases z
    rw [msk_out q]
    exact ub.frzs b o u (by rw [unm_out q]; exact e)
  · have q := k.out e fun _ z => by cases z
    rw [msk_out q]
    exact ub.tbls b ps (by rw [unm_out q]; exact e)
  · cases q : cs.lookup a with
    | some ob =>
      have z := kc a ob q
      rw [fl.2.1] at z
      cases z
    | none => rw [msk_out q]; exact na
end
mutual
def plainD : D → Bool
  | .tup xs => plainL xs
  | .lst xs => plainL xs
  | .wt xs => plainL xs
  | .dK kvs => plainK kvs
  | .dT kvs => plainT kvs
  | .obj _ fs => plainF fs
  | .exc _ _ => false
  | .fn _ _ => false
  | .bw _ => false
  | .rf _ => false
  | .dN _ => false
  | _ => true
def plainL : List D → Bool
  | [] => true
  | d :: ds => plainD d && plainL ds
def plainK : List (Key × D) → Bool
  | [] => true
  | (_, d) :: ds => plainD d && plainK ds
def plainT : List (List Key × D) → Bool
  | [] => true
  | (_, d) :: ds => plainD d && plainT ds
def plainF : List (Str × D) → Bool
  | [] => true
  | (_, d) :: ds => plainD d && plainF ds
end
/-- what plain trees lean on stays -/
structure Px (C C' : Cf) (H H' : Hp) : Prop where
  fk : ∀ a o, C.F a → H a = some o → noTbl o → (∀ φ, o ≠ .ext φ) → C'.F a ∧ H' a = some o
  tp : ∀ a xs, H a = some (.tup xs) → H' a = some (.tup xs)
  fp : ∀ a o u, H a = some (.frz o u) → H' a = some (.frz o u)
  pn : ∀ q, C.pen = some q → C'.pen = some q
section
variable {G : GC} {C C' : Cf} {H H' : Hp}
mutual
theorem Rep.px (n : Px C C' H H') : ∀ {v : V} {d : D}, Rep G C H v d → plainD d = true → Rep G C' H' v d
  | _, _, .non, _ => .non
  | _, _, .bl b, _ => .bl b
  | _, _, .int i, _ => .int i
  | _, _, .str x, _ => .str x
  | _, _, .tup h l, p => .tup (n.tp _ _ h) (RepL.px n l p)
  | _, _, .wt h l, p => .wt h (RepL.px n l p)
  | _, _, .lst f h l, p => .lst (n.fk _ _ f h (fun _ z => nomatch z) (fun _ z => nomatch z)).1 (n.fk _ _ f h (fun _ z => nomatch z) (fun _ z => nomatch z)).2 (RepL.px n l p)
  | _, _, .dK f h l, p => .dK (n.fk _ _ f h (fun _ z => nomatch z) (fun _ z => nomatch z)).1 (n.fk _ _ f h (fun _ z => nomatch z) (fun _ z => nomatch z)).2 (RepK.px n l p)
  | _, _, .dT f h l, p => .dT (n.fk _ _ f h (fun _ z => nomatch z) (fun _ z => nomatch z)).1 (n.fk _ _ f h (fun _ z => nomatch z) (fun _ z => nomatch z)).2 (RepT.px n l p)
  | _, _, .obj f h c l, p => .obj (n.fk _ _ f h (fun _ z => nomatch z) (fun _ z => nomatch z)).1 (n.fk _ _ f h (fun _ z => nomatch z) (fun _ z => nomatch z)).2 c (RepF.px n l p)
  | _, _, .exc h c, p => by cases p
  | _, _, .fn h l, p => by cases p
  | _, _, .ty x, _ => .ty x
  | _, _, .cls c, _ => .cls c
  | _, _, .pen h, _ => .pen (n.pn _ h)
  | _, _, .scr ⟨o, h⟩, _ => .scr ⟨o, n.fp _ _ _ h⟩
  | _, _, .bw ⟨o, h⟩ l, p => by cases p
  | _, _, .rf h, p => by cases p
  | _, _, .dN _ _ _ _, p => by cases p
theorem RepL.px (n : Px C C' H H') : ∀ {v : List V} {d : List D}, RepL G C H v d → plainL d = true → RepL G C' H' v d
  | _, _, .nil, _ => .nil
  | _, _, .cons (d := d) (ds := ds) h l, p => by
    have p : (plainD d && plainL ds) = true := p
    rw [Bool.and_eq_true] at p
    exact .cons (Rep.px n h p.1) (RepL.px n l p.2)
theorem RepK.px (n : Px C C' H H') : ∀ {v : List (Key × V)} {d : List (Key × D)}, RepK G C H v d → plainK d = true → RepK G C' H' v d
  | _, _, .nil, _ => .nil
  | _, _, .cons (d := d) (ds := ds) h l, p => by
    have p : (plainD d && plainK ds) = true := p
    rw [Bool.and_eq_true] at p
    exact .cons (Rep.px n h p.1) (RepK.px n l p.2)
theorem RepT.px (n : Px C C' H H') : ∀ {v : List (List Key × V)} {d : List (List Key × D)}, RepT G C H v d → plainT d = true → RepT G C' H' v d
  | _, _, .nil, _ => .nil
  | _, _, .cons (d := d) (ds := ds) h l, p => by
    have p : (plainD d && plainT ds) = true := p
    rw [Bool.and_eq_true] at p
    exact .cons (Rep.px n h p.1) (RepT.px n l p.2)
theorem RepF.px (n : Px C C' H H') : ∀ {v : List (Str × V)} {d : List (Str × D)}, RepF G C H v d → plainF d = true → RepF G C' H' v d
  | _, _, .nil, _ => .nil
  | _, _, .cons (d := d) (ds := ds) h l, p => by
    have p : (plainD d && plainF ds) = true := p
    rw [Bool.and_eq_true] at p
    exact .cons (Rep.px n h p.1) (RepF.px n l p.2)
end
end
/-- what a closure's cells hold, all of them known: cs are the cells -/
structure CellsT (cl : List (Str × Addr)) (fr : List Str) (vs : List V) (H : Hp) (cs : CL) : Prop where
  len : vs.length = fr.length
  inj : ∀ x y c, cl.lookup x = some c → cl.lookup y = some c → x = y
  kn : Kn H cs
  all : ∀ y c, cl.lookup y = some c → ∃ o v, cs.lookup c = some o ∧ o.data = .cell v
  has : ∀ (i : Nat) (y : Str), fr[i]? = some y → ∃ c, cl.lookup y = some c ∧ ∀ v, vs[i]? = some v → ∃ u o, L2.RelV v u ∧ cs.lookup c = some o ∧ o.data = .cell (some u)
  cel : ∀ c o, cs.lookup c = some o → ∃ v, o.data = .cell v
def fnPof (LT : Nat → Option LamD) (id : Nat) (f : Addr) (H : Hp) (vs : List V) : Prop := ∃ L cl c' cs, LT id = some L ∧ H f = some (LamO f L cl c') ∧ H c' = some (CodeO c' L.qual) ∧ CellsT cl L.fr vs H cs
theorem fnS_of (LT : Nat → Option LamD) : ∀ id f H H' vs, fnPof LT id f H vs → (∀ a φ, H a = some (.ext φ) → Keep a φ → H' a = some (.ext φ)) → fnPof LT id f H' vs := by
  rintro id f H H' vs ⟨L, cl, c', cs, h1, h2, h3, h4⟩ k
  exact ⟨L, cl, c', cs, h1, k _ _ h2 keep_lam, k _ _ h3 keep_code, ⟨h4.len, h4.inj, fun a o e => k _ _ (h4.kn a o e) (keep_cell (h4.cel a o e)), h4.all, h4.has, h4.cel⟩⟩
/-- the context has closures by this table -/
structure GF (G : GC) (LT : Nat → Option LamD) : Prop where
  fn : ∀ id f H vs, G.fnP id f H vs ↔ fnPof LT id f H vs
/-- frozen things without the cells -/
def Cf.noC (C : Cf) (cs : CL) : Cf := ⟨fun a => C.F a ∧ cs.lookup a = none, C.pen, C.me⟩
def Cf.plus (C C' : Cf) : Cf := ⟨fun a => C.F a ∨ C'.F a, C.pen, C.me⟩
theorem px_unm {C : Cf} {H : Hp} {cs : CL} (k : Kn H cs) : Px C (C.noC cs) H (unm H cs) := by
  have q : ∀ a o, H a = some o → (∀ φ, o ≠ .ext φ) → unm H cs a = some o := fun a o e n => by rw [unm_out (k.out e n)]; exact e
  exact ⟨fun a o f e _ n => ⟨⟨f, k.out e n⟩, q a o e n⟩, fun a xs e => q a _ e fun _ z => (by cases z), fun a o u e => q a _ e fun _ z => (by cases z), fun _ h => h⟩
/-- a closure's promise -/
def LOk (P : Program) (w : World) (K : PySem.W.Frag) (mg : Str → Option Value) (base : Heap) (G : GC) (k id np : Nat) (m : List D → List D → T D) : Prop :=
  ∀ (A : Around) (outer : List PySem.Env) (s : Shared) (H : Hp) (C : Cf) (n : Nat) (f : Addr) (vs ws : List V) (cs ds : List D) (us : List Value) (Q : VK) (E : XK), Room k A → Env0 P w K mg base A outer s H → G.fnP id f H vs → RepL G C H vs cs → Wf G C n H → Vals ws us → RepL G C H ws ds →
    plainL cs = true → plainL ds = true → ds.length = np → (m cs ds).wp n (fun d n' => ∀ C' H' v, Step [] C H C' H' → Wf G C' n' H' → Rep G C' H' v d → Q v H') (fun e n' => ∀ C' H' cls dx, Step [] C H C' H' → Wf G C' n' H' → RepX G cls dx e → E cls dx H') →
    codeAny (model P w) A (.call (.ref f) ⟨us, []⟩) (CR (L2.CX P w) outer P w H s Q E) s
/-- how a lambda runs -/
def runL (nN : Nat) (m : Env → T D) (cs ds : List D) : T D := m (startE nN (ds ++ cs))
section
variable {P : Program} {w : World} {K : PySem.W.Frag} {mg : Str → Option Value} {base : Heap} {G : GC} {LT : Nat → Option LamD} {N ps : List Str} {L : LamD} {k id : Nat} {m : Env → T D}
theorem not_code {H : Hp} {h : Heap} (hok : HOk P w H h) {c : Addr} {o : Obj} {v : Option Value} {q : Str} (e : H c = some (CellX c o)) (ed : o.data = .cell v) (e2 : H c = some (CodeO c q)) : False := by
  have h1 := cellX_at hok e
  obtain ⟨⟨oc, vs, t, h2, h3, _⟩, _⟩ := hok c _ e2
  rw [h1] at h2
  cases h2
  rw [ed] at h3
  cases h3
theorem not_lam {H : Hp} {h : Heap} (hok : HOk P w H h) {c c' : Addr} {o : Obj} {v : Option Value} {cl : List (Str × Addr)} (e : H c = some (CellX c o)) (ed : o.data = .cell v) (e2 : H c = some (LamO c L cl c')) : False := by
  have h1 := cellX_at hok e
  obtain ⟨_, _, _, _, h2⟩ := lamO_at hok e2
  rw [h1] at h2
  cases h2
  cases ed
theorem wf_unm {C : Cf} {n : Nat} {H : Hp} {cs : CL} {h : Heap} (hok : HOk P w H h) (wf : Wf G C n H) (k : Kn H cs) (cel : ∀ c o, cs.lookup c = some o → ∃ v, o.data = .cell v) : Wf G (C.noC cs) n (unm H cs) := by
  refine ⟨fun p c e => ?_, fun a h => ?_, fun p hp => ?_⟩
  · obtain ⟨xs, i, r, ⟨h1, h2, h3⟩, h4⟩ := wf.pen p c e
    exact ⟨xs, i, r, ⟨by rw [unm_out (k.out h1 fun _ z => by cases z)]; exact h1, by rw [unm_out (k.out h2 fun _ z => by cases z)]; exact h2, h3⟩, h4⟩
  · obtain ⟨⟨o, e, t⟩, np⟩ := wf.fz a h.1
    exact ⟨⟨o, by rw [unm_out h.2]; exact e, t⟩, np⟩
  · obtain ⟨qs, h1, h2, h3⟩ := wf.tab p hp
    refine ⟨qs, by rw [unm_out (k.out h1 fun _ z => by cases z)]; exact h1, h2, fun pos cv hc => ?_⟩
    obtain ⟨c, e1, e2⟩ := h3 pos cv hc
    refine ⟨c, e1, ?_⟩
    cases q : cs.lookup c with
    | none => rw [unm_out q]; exact e2
    | some o =>
      obtain ⟨v, ed⟩ := cel c o q
      exact (not_code hok (k c o q) ed e2).elim
theorem step_msk {C C' : Cf} {H H' : Hp} {cs : CL} (k : Kn H cs) (s : Step [] (C.noC cs) (unm H cs) C' H') (k0 : Un0 H' cs) {n' : Nat} (wf : Wf G C' n' H') : Step [] C H (C'.plus ⟨fun a => C.F a ∧ (cs.lookup a).isSome = true, none, none⟩) (msk H' cs) := by
  have at_ : ∀ a o, H a = some o → noTbl o → a ∉ C.pa → msk H' cs a = some o := fun a o e t np => by
    cases q : cs.lookup a with
    | some ob =>
      rw [msk_in q]
      rw [k a ob q] at e
      exact e
    | none =>
      rw [msk_out q]
      exact s.kp a o (by rw [unm_out q]; exact e) t (by simp) np
  have ex : ∀ a o, H a = some o → (∀ φ, o ≠ .ext φ) → ∀ o', H' a = some o' → msk H' cs a = some o' := fun a o e n o' e' => by rw [msk_out (k.out e n)]; exact e'
  refine ⟨fun a o e t _ np => at_ a o e t np, fun a o e => ?_, ⟨fun a o f e t => ?_, fun a xs e => ?_, fun a o u e => ?_, fun a φ e kp => ?_, s.nx.pn⟩, fun a h => ?_, fun a h => ?_, s.me⟩
  · cases q : cs.lookup a with
    | some ob => exact ⟨_, msk_in q⟩
    | none =>
      obtain ⟨o', e'⟩ := s.al a o (by rw [unm_out q]; exact e)
      exact ⟨o', by rw [msk_out q]; exact e'⟩
  · cases q : cs.lookup a with
    | some ob =>
      refine ⟨.inr ⟨f, by rw [q]; rfl⟩, ?_⟩
      rw [msk_in q]
      rw [k a ob q] at e
      exact e
    | none =>
      have z := s.nx.fk a o ⟨f, q⟩ (by rw [unm_out q]; exact e) t
      exact ⟨.inl z.1, by rw [msk_out q]; exact z.2⟩
  · have q := k.out e fun _ z => by cases z
    rw [msk_out q]
    exact s.nx.tp a xs (by rw [unm_out q]; exact e)
  · have q := k.out e fun _ z => by cases z
    rw [msk_out q]
    exact s.nx.fp a o u (by rw [unm_out q]; exact e)
  · cases q : cs.lookup a with
    | some ob =>
      rw [msk_in q]
      rw [k a ob q] at e
      exact e
    | none =>
      rw [msk_out q]
      exact s.nx.xp a φ (by rw [unm_out q]; exact e) kp
  · rcases h with h | h
    · rcases s.fn a h with z | z | z
      · exact .inl z.1
      · cases z
      · cases q : cs.lookup a with
        | some ob =>
          obtain ⟨⟨o, e, _⟩, _⟩ := wf.fz a h
          rw [k0 a ob q] at e
          cases e
        | none => rw [unm_out q] at z; exact .inr (.inr z)
    · exact .inl h.1
  · rcases s.pf a h with z | z
    · exact .inl z
    · cases q : cs.lookup a with
      | some ob => exact absurd h (wf.pne (k0 a ob q))
      | none => rw [unm_out q] at z; exact .inr z
theorem wf_msk {C C' : Cf} {n : Nat} {H : Hp} {cs : CL} (wf : Wf G C' n H) (k0 : Un0 H cs) : Wf G (C'.plus ⟨fun a => C.F a ∧ (cs.lookup a).isSome = true, none, none⟩) n (msk H cs) := by
  refine ⟨fun p c e => ?_, fun a h => ?_, fun p hp => ?_⟩
  · obtain ⟨xs, i, r, ⟨h1, h2, h3⟩, h4⟩ := wf.pen p c e
    exact ⟨xs, i, r, ⟨by rw [msk_out (k0.out h1)]; exact h1, by rw [msk_out (k0.out h2)]; exact h2, h3⟩, h4⟩
  · rcases h with h | ⟨_, h⟩
    · obtain ⟨⟨o, e, t⟩, np⟩ := wf.fz a h
      exact ⟨⟨o, by rw [msk_out (k0.out e)]; exact e, t⟩, np⟩
    · obtain ⟨o, q⟩ := Option.isSome_iff_exists.mp h
      exact ⟨⟨_, msk_in q, fun _ z => by cases z⟩, wf.pne (k0 a o q)⟩
  · exact (wf.tab p hp).ext fun b o e => by rw [msk_out (k0.out e)]; exact e
theorem nx_msk {C C' : Cf} {H : Hp} {cs : CL} (k0 : Un0 H cs) : Nx C' (C'.plus ⟨fun a => C.F a ∧ (cs.lookup a).isSome = true, none, none⟩) H (msk H cs) := by
  have q : ∀ a o, H a = some o → msk H cs a = some o := fun a o e => by rw [msk_out (k0.out e)]; exact e
  exact ⟨fun a o f e _ => ⟨.inl f, q a o e⟩, fun a xs e => q a _ e, fun a o u e => q a _ e, fun a φ e _ => q a _ e, fun _ h => h⟩
theorem lok_of (gf : GF G LT) (hL : LT id = some L) (S : NScope N ps L.fr L.scope) (hb : ∀ (cl : List (Str × Addr)) (pm ctv : Value) (c' : Addr) (us : List Value), us.length = ps.length → bindArgs (PySem.W.kla_fn "<lambda>" L.qual L.params L.body L.scope cl pm (.ref c') ctv) ⟨us, []⟩ = pure (ps.zip us))
    (hbody : ∀ (A : Around) (outer : List PySem.Env) (s : Shared) (H : Hp) (E : XK) (f c' : Addr) (cl : List (Str × Addr)), Room k (A.deeper (envF (L.nf cl c') f s.heap.objs.size)) → PE (ncx (L2.CX P w) P w K mg base N (L.nf cl c') f A outer s H E) L.body (tQ G (fun cls d _ H => E cls d H) false m)) :
    LOk P w K mg base G (k + 1) id ps.length (runL N.length m) := by
  intro A outer s H C n f vs ws cs ds us Q E hr e0 hfn rc wf rv rd pc pd hl hw
  obtain ⟨L', cl, c', cells, e1, e2, e3, CT⟩ := (gf.fn _ _ _ _).mp hfn
  rw [hL] at e1
  cases e1
  have kn := CT.kn
  have of_ : cells.lookup f = none := by
    cases q : cells.lookup f with
    | none => rfl
    | some o =>
      obtain ⟨v, ed⟩ := CT.cel f o q
      exact (not_lam e0.hok (kn f o q) ed e2).elim
  have oc_ : cells.lookup c' = none := by
    cases q : cells.lookup c' with
    | none => rfl
    | some o =>
      obtain ⟨v, ed⟩ := CT.cel c' o q
      exact (not_code e0.hok (kn c' o q) ed e3).elim
  have nn : ∀ b, H b = none → unm H cells b = none := fun b e => by
    cases q : cells.lookup b with
    | none => rw [unm_out q]; exact e
    | some o => exact unm_in q
  have hoku : HOk P w (unm H cells) s.heap := hok_unm e0.hok kn
  have e0u : Env0 P w K mg base A outer s (unm H cells) := ⟨e0.frames, e0.mod, fun b o e => ⟨(e0.bs b o e).1, nn b (e0.bs b o e).2⟩, e0.bsz, e0.funs, fun b hb => nn b (e0.frf b hb), hoku, e0.bare⟩
  have hfu : unm H cells f = some (LamO f L cl c') := by rw [unm_out of_]; exact e2
  have hcu : unm H cells c' = some (CodeO c' L.qual) := by rw [unm_out oc_]; exact e3
  have CA : CellsAt (L.nf cl c').cl L.fr (vs.map some) s.heap (unm H cells) := by
    refine ⟨by rw [List.length_map]; exact CT.len, fun y c e => ?_, CT.inj, fun i y e => ?_⟩
    · obtain ⟨o, v, q, ed⟩ := CT.all y c e
      exact ⟨unm_in q, v, o, cellX_at e0.hok (kn c o q), ed⟩
    · obtain ⟨c, hc, hv⟩ := CT.has i y e
      refine ⟨c, hc, fun v ev => ?_⟩
      rw [List.getElem?_map] at ev
      have ev2 : vs[i]? = some v := by
        cases q : vs[i]? with
        | none => rw [q] at ev; cases ev
        | some z => rw [q] at ev; cases ev; rfl
      obtain ⟨u, o, r, q, ed⟩ := hv v ev2
      exact ⟨u, r, o, cellX_at e0.hok (kn c o q), ed⟩
  have lim : s.heap.NoLimit := e0.mod.nolimit.keeps fun b o e => (e0.bs b o e).1
  have nfr : ∀ a o, cells.lookup a = some o → a ∉ frs outer := fun a o q z => by
    have e := e0.frf a z
    rw [kn a o q] at e
    cases e
  have hwl : ws.length = ps.length := by rw [rd.length]; exact hl
  have px := px_unm (C := C) kn
  have run : codeAny (model P w) A (.call (.ref f) ⟨us, []⟩) (CR (L2.CX P w) outer P w (unm H cells) s (fun v H' => Un0 H' cells → Q v (msk H' cells)) (fun cls d H' => Un0 H' cells → E cls d (msk H' cells))) s := by
    obtain ⟨od, sl, pm, ctv, ho⟩ := lamO_at hoku hfu
    refine PySem.W.kla_callFunE hr.depth ho rfl S.co S.gen rfl (codeO_at hoku hcu) ?_
    rw [hb cl pm ctv c' us (by rw [← rv.length]; exact hwl)]
    refine wpAny_pure (wpAny_newFunctionEnv S.nocell (fun ⟨n, _⟩ hy => S.par n (List.of_mem_zip hy).1) (fun h₁ hns hsb => ⟨lim.fresh _ hsb, ?_⟩) S.kind)
    show codeAny _ _ (.expr L.body (envF (L.nf cl c') f s.heap.objs.size)) _ _
    have kp : ∀ b o, s.heap.get? b = some o → h₁.get? b = some o := fun b o e => hsb.extBut b o (Nat.ne_of_lt (Heap.lt_size e)) (Heap.get?_push_of_some _ e)
    have J : Inv (ncx (L2.CX P w) P w K mg base N (L.nf cl c') f A outer s (unm H cells) (fun cls d H' => Un0 H' cells → E cls d (msk H' cells))) [] (startF N ws (vs.map some)) (unm H cells) { s with heap := h₁, toks := s.toks + (ps.zip us).length } := inv_startN S hr.hd e0u hwl rv CA hns kp
    refine PySem.W.kla_codeExpr (wpAny_mono ((hbody A outer s (unm H cells) _ f c' cl (hr.deeper _)).run [] _ _ (unm H cells) (fun v H' => Un0 H' cells → Q v (msk H' cells)) J ?_) (fun v s' hq => ?_) fun e s' hq => hq)
    · have er : EnvR G (C.noC cells) (unm H cells) (startF N ws (vs.map some)) (startE N.length (ds ++ cs)) [] := by
        have q := EnvR.start (G := G) (C := C.noC cells) (H := unm H cells) (N.length - (ds ++ cs).length) ((rd.px px pd).append (rc.px px pc))
        unfold startF startE
        rw [← List.append_assoc, ← List.map_append]
        rw [List.length_append] at q
        rw [List.length_map, List.length_append, rd.length, rc.length, Nat.sub_sub]
        exact q
      refine ⟨C.noC cells, n, startE N.length (ds ++ cs), [], ⟨wf_unm e0.hok wf kn CT.cel, er, List.nodup_nil, fun a m => absurd m (by simp)⟩, ?_⟩
      refine T.wp_mono hw (fun d n' _ z C' H' v st wf' r k0 => ?_) (fun e n' _ z C' H' cls dx st wf' r k0 => ?_)
      · exact z _ _ v (step_msk kn st k0 wf') (wf_msk wf' k0) (r.unview.nx (nx_msk k0))
      · exact z _ _ cls dx (step_msk kn st k0 wf') (wf_msk wf' k0) r
    · obtain ⟨w', H', J', rv, q⟩ := hq
      exact ⟨w', H', J'.os, J'.bare, J'.base, J'.hok, rv, q⟩
  refine codeAny_mono run fun r s' hq => ?_
  cases r with
  | error e => exact cx_of_unm hq kn e0.hok nfr fun cls d H' k0 z => z k0
  | ok fl =>
    cases fl with
    | ret u =>
      obtain ⟨v, H', os, bare, un, hok, r, q⟩ := hq
      have k0 : Un0 H' cells := fun b ob z => un.free b ob (cellX_at e0.hok (kn b ob z)) (unm_in z) (by simp)
      have kc : ∀ a o, cells.lookup a = some o → s'.heap.get? a = some o := fun b ob z => un.keep b ob (cellX_at e0.hok (kn b ob z)) (unm_in z) (nfr b ob z) (by simp)
      exact ⟨v, msk H' cells, os, bare, un_of_unm un kn, hok_msk hok k0 kc, r, q k0⟩
    | next => exact False.elim hq
    | brk => exact False.elim hq
    | cont => exact False.elim hq
end
end Pu
set_option Elab.async false
set_option linter.all false
set_option maxRecDepth 100000
set_option maxHeartbeats 4000000
namespace Pu
open PySem L2 Stp NdefX LamX
open PyProof.Rows hiding St
abbrev LamL := List (Nat × Nat × (List D → List D → T D))
def LamL.look : LamL → Nat → Option (Nat × (List D → List D → T D))
  | [], _ => none
  | (k, m) :: L, c => if k = c then some m else LamL.look L c
def LOks (P : Program) (w : World) (K : PySem.W.Frag) (mg : Str → Option Value) (base : Heap) (G : GC) (k : Nat) (L : LamL) : Prop := ∀ id np m, L.look id = some (np, m) → LOk P w K mg base G k id np m
section
variable {P : Program} {w : World} {K : PySem.W.Frag} {mg : Str → Option Value} {base : Heap} {G : GC} {k j : Nat} {L : LamL}
theorem LOk.mono {id np : Nat} {m : List D → List D → T D} (o : LOk P w K mg base G j id np m) (h : j ≤ k) : LOk P w K mg base G k id np m := fun A outer s H C n f vs ws cs ds us Q E hr => o A outer s H C n f vs ws cs ds us Q E (hr.mono h)
theorem loks_nil : LOks P w K mg base G k [] := fun id np m e => by cases e
theorem loks_cons {id np : Nat} {m : List D → List D → T D} (o : LOk P w K mg base G k id np m) (r : LOks P w K mg base G k L) : LOks P w K mg base G k ((id, np, m) :: L) := fun id' np' m' e => by
  unfold LamL.look at e
  by_cases hc : id = id'
  · rw [if_pos hc] at e
    cases e
    subst hc
    exact o
  · rw [if_neg hc] at e
    exact r id' np' m' e
theorem LOks.mono (o : LOks P w K mg base G j L) (h : j ≤ k) : LOks P w K mg base G k L := fun id np m e => (o id np m e).mono h
end
def callV (L : LamL) : D → List D → T D
  | .fn id cs, ds => (match L.look id with
    | some (np, m) => grd (plainL cs = true ∧ plainL ds = true ∧ ds.length = np) (m cs ds)
    | none => .fail)
  | _, _ => .fail
def callVs (L : LamL) (ma : T (List D)) : D → T D
  | .fn id cs => ma.bind fun ds => callV L (.fn id cs) ds
  | _ => .fail
def qCallV (L : LamL) (i : Nat) (ma : Env → T (List D)) : Env → T D := fun env => (qVar i env).bind (callVs L (ma env))
section
variable {X : Cx} {G : GC} {W : WX} {LT : Nat → Option LamD} {L : LamL} {k i : Nat} {x : Str} {p pos : Pos} {e : Expr} {es : List Expr} {ma : Env → T (List D)}
theorem fnAt_lam {pins : List (Addr × Obj)} {σ : St} {H : Hp} {s : Shared} {f : Addr} {id : Nat} {vs : List V} (gf : GF G LT) (I : Inv X pins σ H s) (h : G.fnP id f H vs) : PySem.W.FnAt f s.heap := by
  obtain ⟨L, cl, c', cs, e1, e2, _⟩ := (gf.fn _ _ _ _).mp h
  obtain ⟨od, sl, pm, ctv, ho⟩ := lamO_at I.hok e2
  exact ⟨_, od, _, sl, ho⟩
theorem run_lam {pins : List (Addr × Obj)} {σ : St} {H : Hp} {s : Shared} {f : Addr} {id : Nat} {vs ws : List V} {cs ds : List D} {us : List Value} {C : Cf} {n : Nat} {env : Env} {own : List Addr} {Q : VK} (tk : Takes X W) (hr : Room k X.A) (hL : LOks X.prog X.w X.K X.mg X.base G k L) (I : Inv X pins σ H s) (h : G.fnP id f H vs) (rc : RepL G C H vs cs) (rv : Vals ws us) (rd : RepL G C H ws ds)
    (hq : At G W (rV G false) σ env own C n H (callV L (.fn id cs) ds) Q) : wpAny (model X.prog X.w) X.A (call (.ref f) us) (EP X pins σ Q) X.xe s := by
  replace hq : At G W (rV G false) σ env own C n H (match L.look id with
    | some (np, m) => grd (plainL cs = true ∧ plainL ds = true ∧ ds.length = np) (m cs ds)
    | none => .fail) Q := hq
  cases q : L.look id with
  | none => rw [q] at hq; exact hq.no.elim
  | some p =>
    obtain ⟨np, m⟩ := p
    rw [q] at hq
    obtain ⟨⟨h1, h2, h3⟩, hq⟩ := hq.grd
    refine wpAny_call (codeAny_mono (hL id np m q X.A X.stack s H C n f vs ws cs ds us Q (WE W σ) hr I.env0 h rc hq.ok.wf rv rd h1 h2 h3 (T.wp_mono hq.wp (fun d n' _ z C' H' v s w r => z C' H' v s w (r.view false)) (fun e n' _ z => z))) fun r s' hq => ?_)
    cases r with
    | error e => exact passAt tk σ pins H s e s' I hq
    | ok fl =>
      cases fl with
      | ret u => exact I.after hq
      | next => exact False.elim hq
      | brk => exact False.elim hq
      | cont => exact False.elim hq
theorem s_callV (gf : GF G LT) (tk : Takes X W) (hr : Room k X.A) (hL : LOks X.prog X.w X.K X.mg X.base G k L) (hN : X.N[i]? = some x) (hv : Vis X.env.scope x) (ha : PA X (e :: es) (tA G W false ma))
    (hd : (x == ("__debug__" : Str)) = false := by decide) (hcd : (x == ("__classdict__" : Str)) = false := by decide)
    (he : starEach (e :: es) X.env = (false, eval e X.env) :: starEach es X.env := by rfl) (hpl : (backTo pos (starEach es X.env)).any (·.1) = false := by rfl) :
    PE X (.Call (.Name x p) (e :: es) [] pos) (tQ G W false (qCallV L i ma)) := by
  refine ⟨fun pins s σ H Q I h => ?_⟩
  obtain ⟨C, n, env, us, h⟩ := h
  refine wpAny_Call_Name_kw (thn ((s_var (G := G) (W := W) (pos := p) i hN hv hd hcd).run pins s σ H _ I ⟨C, n, env, us, h.bind (R := rV G false)⟩) fun u s1 ⟨v, H1, I1, r1, C1, n1, d, s1', r1', h1⟩ => ?_)
  have r1' := r1'.unview
  cases r1' with
  | @fn f id vs cs hf rc =>
    obtain rfl : u = Value.ref f := r1
    refine PySem.W.callWith_F (first := []) (fnAt_lam gf I1 hf) (thn (ha.run pos pins s1 σ H1 _ I1 ⟨C1, n1, env, us, h1.bind (R := rA G false)⟩) fun us' s2 ⟨ws, H2, I2, r2, C2, n2, ds, s2', r2', h2⟩ => ⟨fnAt_lam gf I2 (G.fnS _ _ _ _ _ hf s2'.nx.xp), ?_⟩) he hpl
    show wpAny _ _ (call (.ref f) us') _ _ _
    exact run_lam tk hr hL I2 (G.fnS _ _ _ _ _ hf s2'.nx.xp) (rc.nx s2'.nx) r2 (r2'.nx (Nx.unview _ _)) h2
  | _ => exact h1.no.elim
end
def capsD (env : Env) : List Nat → Option (List D)
  | [] => some []
  | j :: js => (match env[j]? with
    | some (some (.fz d)) => (capsD env js).map (d :: ·)
    | _ => none)
inductive ArgL (G : GC) (C : Cf) (H : Hp) (id : Nat) (L : LamD) (cl : List (Str × Addr)) (cs : Option (List D)) : List V → List D → Prop
  | nil : ArgL G C H id L cl cs [] []
  | cons {v : V} {d : D} {vs : List V} {ds : List D} : Rep G C H v d → ArgL G C H id L cl cs vs ds → ArgL G C H id L cl cs (v :: vs) (d :: ds)
  | lam {f c' : Addr} {es : List D} {vs : List V} {ds : List D} : H f = some (LamO f L cl c') → H c' = some (CodeO c' L.qual) → cs = some es → ArgL G C H id L cl cs vs ds → ArgL G C H id L cl cs (.ref f :: vs) (.fn id es :: ds)
theorem ArgL.nx {G : GC} {C C' : Cf} {H H' : Hp} {id : Nat} {L : LamD} {cl : List (Str × Addr)} {cs : Option (List D)} (n : Nx C C' H H') : ∀ {vs : List V} {ds : List D}, ArgL G C H id L cl cs vs ds → ArgL G C' H' id L cl cs vs ds
  | _, _, .nil => .nil
  | _, _, .cons r l => .cons (r.nx n) (ArgL.nx n l)
  | _, _, .lam h1 h2 e l => .lam (n.xp _ _ h1 keep_lam) (n.xp _ _ h2 keep_code) e (ArgL.nx n l)
theorem ArgL.of {G : GC} {C : Cf} {H : Hp} {id : Nat} {L : LamD} {cl : List (Str × Addr)} {cs : Option (List D)} : ∀ {vs : List V} {ds : List D}, RepL G C H vs ds → ArgL G C H id L cl cs vs ds
  | _, _, .nil => .nil
  | _, _, .cons r l => .cons r (ArgL.of l)
theorem ArgL.length {G : GC} {C : Cf} {H : Hp} {id : Nat} {L : LamD} {cl : List (Str × Addr)} {cs : Option (List D)} : ∀ {vs : List V} {ds : List D}, ArgL G C H id L cl cs vs ds → vs.length = ds.length
  | _, _, .nil => rfl
  | _, _, .cons _ l => congrArg (· + 1) (ArgL.length l)
  | _, _, .lam _ _ _ l => congrArg (· + 1) (ArgL.length l)
def rAL (X : Cx) (G : GC) (id : Nat) (L : LamD) (cs : Option (List D)) : RR (List D) (List V) := fun C H vs ds => ArgL G C H id L (cloFrom X.env.cells L.scope.names []) cs vs ds
def tAL (X : Cx) (G : GC) (W : WX) (id : Nat) (L : LamD) (js : List Nat) (m : Env → T (List D)) : TA := fun σ H Q => ∃ C n env us, At G W (rAL X G id L (capsD env js)) σ env us C n H (m env) Q
def aLam (id : Nat) (js : List Nat) (k : Env → T (List D)) : Env → T (List D) := fun env => match capsD env js with
  | some cs => (k env).bind fun ds => .ret (.fn id cs :: ds)
  | none => .fail
section
variable {X : Cx} {G : GC} {W : WX} {LT : Nat → Option LamD} {L : LamD} {k i id : Nat} {js : List Nat} {x : Str} {p pos : Pos} {e : Expr} {es : List Expr} {m : Env → T D} {ma : Env → T (List D)}
theorem al_cons (ha : PE X e (tQ G W false m)) (hr : PA X es (tAL X G W id L js ma)) (hs : starEach (e :: es) X.env = (false, eval e X.env) :: starEach es X.env := by rfl) : PA X (e :: es) (tAL X G W id L js (aCons m ma)) := by
  refine PA.imp (pa_cons ha hr hs) fun σ H Q h => ?_
  obtain ⟨C, n, env, us, h⟩ := h
  refine ⟨C, n, env, us, (h.bind (R := rV G false)).imp ?_⟩
  rintro v H1 ⟨C1, n1, d, s1, r1, h1⟩
  refine ⟨C1, n1, env, us, (h1.bind (R := rAL X G id L (capsD env js))).imp ?_⟩
  rintro vs H2 ⟨C2, n2, ds, s2, r2, h2⟩
  exact h2.ret (.cons (r1.unview.nx s2.nx) r2)
def tLamE (X : Cx) (T : List NTab) (L : LamD) : TE := fun σ H Q => TabsN T H ∧ ∀ (f c' : Addr) (H1 : Hp), ExtN H H1 → (∀ b, H1 b = Option.none → H b = Option.none) → TabsN T H1 → H f = none → H1 f = some (LamO f L (cloFrom X.env.cells L.scope.names []) c') → H1 c' = some (CodeO c' L.qual) → Q (.ref f) H1
theorem pe_lamE {T : List NTab} {nm : Nat → Nat → Str} {c P : Addr} (TB : TabB X.base X.mg c P) (hcode : X.env.code = .ref c) (hq : L.qual = X.env.qual ++ "<lambda>")
    (hm : (P, nm) ∈ T) (hn : nm pos.line pos.col = L.qual) (hu : ∀ p ∈ T, p.1 = P → p.2 = nm) (hdef : defaultsOf L.params X.env = ([], [])) (hfree : ∀ y ∈ L.scope.names, y.2 = .free → X.env.scope.names.lookup y.1 = some .cell ∨ X.env.scope.names.lookup y.1 = some .free) :
    PE X (.Lambda L.params L.body L.scope pos) (tLamE X T L) := by
  refine ⟨fun pins s σ H Q I h => ?_⟩
  exact lam_new I TB hcode hq hm hn hu h.1 hdef (fun y hy e => I.ok.has _ (hfree y hy e)) fun f c' H1 s' I1 x1 x2 x3 x4 x5 x6 => ⟨.ref f, H1, I1, rfl, h.2 f c' H1 x1 x2 x3 x4 x5 x6⟩
theorem al_lam {nm : Nat → Nat → Str} {c P : Addr} (TB : TabB X.base X.mg c P) (hcode : X.env.code = .ref c) (hq : L.qual = X.env.qual ++ "<lambda>")
    (hm : (P, nm) ∈ G.T) (hn : nm pos.line pos.col = L.qual) (hu : ∀ p ∈ G.T, p.1 = P → p.2 = nm) (hdef : defaultsOf L.params X.env = ([], [])) (hfree : ∀ y ∈ L.scope.names, y.2 = .free → X.env.scope.names.lookup y.1 = some .cell ∨ X.env.scope.names.lookup y.1 = some .free)
    (hr : PA X es (tA G W false ma)) (hs : starEach (.Lambda L.params L.body L.scope pos :: es) X.env = (false, eval (.Lambda L.params L.body L.scope pos) X.env) :: starEach es X.env := by rfl) : PA X (.Lambda L.params L.body L.scope pos :: es) (tAL X G W id L js (aLam id js ma)) := by
  refine PA.imp (pa_cons (pe_lamE TB hcode hq hm hn hu hdef hfree) hr hs) fun σ H Q h => ?_
  obtain ⟨C, n, env, us, h⟩ := h
  refine ⟨h.ok.wf.tab, fun f c' H1 x1 x2 x3 x4 x5 x6 => ?_⟩
  have st : Step [] C H C H1 := by
    refine ⟨fun a o e t _ _ => x1 a o e t, fun a o e => ?_, ⟨fun a o f e t => ⟨f, x1 a o e t⟩, fun a xs e => x1 a _ e (fun _ z => by cases z), fun a o u e => x1 a _ e (fun _ z => by cases z), fun a φ e _ => x1 a _ e (fun _ z => by cases z), fun _ h => h⟩, fun a h => .inl h, fun a h => .inl h, rfl⟩
    cases q : H1 a with
    | some o' => exact ⟨o', rfl⟩
    | none => rw [x2 a q] at e; cases e
  have wf1 : Wf G C n H1 := by
    refine ⟨fun p c e => ?_, fun a h' => ?_, x3⟩
    · obtain ⟨xs, i, r, ⟨h1, h2, h3⟩, h4⟩ := h.ok.wf.pen p c e
      exact ⟨xs, i, r, ⟨x1 _ _ h1 (fun _ z => by cases z), x1 _ _ h2 (fun _ z => by cases z), h3⟩, h4⟩
    · obtain ⟨⟨o, e, t⟩, np⟩ := h.ok.wf.fz a h'
      exact ⟨⟨o, x1 _ _ e t, t⟩, np⟩
  have k1 := h.ok.q st wf1
  unfold aLam at h
  cases q : capsD env js with
  | none => rw [q] at h; exact h.no.elim
  | some cs =>
    rw [q] at h
    refine ⟨C, n, env, us, k1, T.wp_mono (T.wp_bind h.wp) (fun ds n' _ z C' H' vs s w r => ?_) (fun e n' _ z C' H' cls dx s w r => z C' H' cls dx (st.trans s (by simp)) w r)⟩
    exact z C' H' (.ref f :: vs) (st.trans s (by simp)) w (.lam (s.nx.xp _ _ x5 keep_lam) (s.nx.xp _ _ x6 keep_code) rfl (.of (r.nx (Nx.unview _ _))))
end
theorem cells_list (h : Heap) : ∀ (cl : List (Str × Addr)), (∀ p ∈ cl, ∃ o v, h.get? p.2 = some o ∧ o.data = .cell v) → ∃ cs : CL, (∀ p ∈ cl, ∃ o, cs.lookup p.2 = some o) ∧ ∀ a o, cs.lookup a = some o → (∃ p ∈ cl, p.2 = a) ∧ h.get? a = some o ∧ ∃ v, o.data = .cell v
  | [], _ => ⟨[], fun p hp => (by simp at hp), fun a o e => (by cases e)⟩
  | q :: cl, H => by
    obtain ⟨cs, h1, h2⟩ := cells_list h cl fun p hp => H p (List.mem_cons_of_mem _ hp)
    obtain ⟨o, v, e1, e2⟩ := H q (List.mem_cons_self ..)
    refine ⟨(q.2, o) :: cs, fun p hp => ?_, fun a o' e => ?_⟩
    · by_cases hq : p.2 = q.2
      · exact ⟨o, by rw [hq, List.lookup_cons]; simp⟩
      · rcases List.mem_cons.mp hp with hp | hp
        · rw [hp] at hq; exact absurd rfl hq
        · obtain ⟨o', e'⟩ := h1 p hp
          refine ⟨o', ?_⟩
          rw [List.lookup_cons, beq_false_of_ne hq]
          exact e'
    · by_cases hq : a = q.2
      · rw [hq, List.lookup_cons] at e
        simp at e
        subst e
        exact ⟨⟨q, List.mem_cons_self .., hq.symm⟩, by rw [hq]; exact e1, v, e2⟩
      · rw [List.lookup_cons, beq_false_of_ne hq] at e
        obtain ⟨⟨p, hp, hpa⟩, h3, h4⟩ := h2 a o' e
        exact ⟨⟨p, List.mem_cons_of_mem _ hp, hpa⟩, h3, h4⟩
theorem caps_at {G : GC} {C : Cf} {H : Hp} {σ : St} {env : Env} {us : List Addr} (er : EnvR G C H σ env us) : ∀ {js : List Nat} {es : List D}, capsD env js = some es → ∃ vs : List V, js.map (slotAt σ) = vs.map some ∧ RepL G C H vs es
  | [], es, e => by cases e; exact ⟨[], rfl, .nil⟩
  | j :: js, es, e => by
    unfold capsD at e
    cases q : env[j]? with
    | none => rw [q] at e; cases e
    | some o =>
      rw [q] at e
      cases o with
      | none => cases e
      | some o =>
        cases o with
        | fz d =>
          dsimp only at e
          cases q2 : capsD env js with
          | none => rw [q2] at e; cases e
          | some es' =>
            rw [q2] at e
            cases e
            obtain ⟨vs, h1, h2⟩ := caps_at er q2
            obtain ⟨v, us1, f1, f2, _⟩ := er.at q
            cases f2 with
            | fz r => exact ⟨v :: vs, by rw [List.map_cons, List.map_cons, slotAt_of f1, h1], .cons r h2⟩
        | _ => cases e
/-- the cells of the lambda are known from now on -/
structure Masked (X : Cx) (G : GC) (C : Cf) (n : Nat) (H : Hp) (s : Shared) (vs : List V) (ds : List D) (cs : CL) : Prop where
  un : Un0 H cs
  at_ : ∀ a o, cs.lookup a = some o → s.heap.get? a = some o
  cel : ∀ c o, cs.lookup c = some o → ∃ v, o.data = .cell v
  e0 : Env0 X.prog X.w X.K X.mg X.base X.A X.stack s (msk H cs)
  wf : Wf G C n (msk H cs)
  rp : RepL G C (msk H cs) vs ds
section
variable {X : Cx} {G : GC} {W : WX} {LT : Nat → Option LamD} {L : LamD} {k i id : Nat} {js : List Nat} {pins : List (Addr × Obj)} {σ : St} {H : Hp} {s : Shared} {C : Cf} {n : Nat} {env : Env} {us : List Addr}
theorem mask_args {vs : List V} {ds : List D} (gf : GF G LT) (hL : LT id = some L) (hfn : ∀ x, X.fn x = true) (hfree : ∀ y ∈ L.scope.names, y.2 = .free → X.env.scope.names.lookup y.1 = some .cell ∨ X.env.scope.names.lookup y.1 = some .free) (hfr : ∀ y ∈ L.fr, (y, NameKind.free) ∈ L.scope.names) (hjs : js.map (fun j => X.N[j]?) = L.fr.map some)
    (I : Inv X pins σ H s) (ok : Ok G C n σ env us H) (ar : ArgL G C H id L (cloFrom X.env.cells L.scope.names []) (capsD env js) vs ds) : ∃ cs, Masked X G C n H s vs ds cs := by
  have hf : ∀ y ∈ L.scope.names, y.2 = .free → ∃ c, X.env.cells.lookup y.1 = some c := fun y hy e => I.ok.has _ (hfree y hy e)
  have cp : Caps X (cloFrom X.env.cells L.scope.names []) L.fr js := Caps.made I.ok hfree hfr hjs
  have CA := cells_of I cp
  have mem : ∀ p ∈ cloFrom X.env.cells L.scope.names [], X.env.cells.lookup p.1 = some p.2 := fun p hp => by
    rcases cloFrom_mem (n := p.1) (c := p.2) hp with z | ⟨z1, z2⟩
    · cases z
    · obtain ⟨c1, hc⟩ := hf _ z1 rfl
      have hc : X.env.cells.lookup p.1 = some c1 := hc
      rw [z2, hc]; rfl
  obtain ⟨cs, h1, h2⟩ := cells_list s.heap (cloFrom X.env.cells L.scope.names []) fun p hp => by
    obtain ⟨v, o, e1, e2⟩ := I.cell p.1 p.2 (mem p hp)
    exact ⟨o, v, e1, e2⟩
  have un : Un0 H cs := fun a o e => by
    obtain ⟨⟨p, hp, hpa⟩, _⟩ := h2 a o e
    rw [← hpa]
    exact I.freeC p.1 p.2 (mem p hp)
  have at_ : ∀ a o, cs.lookup a = some o → s.heap.get? a = some o := fun a o e => (h2 a o e).2.1
  have nx : Nx C C H (msk H cs) := by
    have q : ∀ a o, H a = some o → msk H cs a = some o := fun a o e => by rw [msk_out (un.out e)]; exact e
    exact ⟨fun a o f e _ => ⟨f, q a o e⟩, fun a xs e => q a _ e, fun a o u e => q a _ e, fun a φ e _ => q a _ e, fun _ h => h⟩
  have hok := hok_msk I.hok un at_
  refine ⟨cs, un, at_, fun c o e => (h2 c o e).2.2, ⟨I.env0.frames, I.env0.mod, fun b o e => ⟨(I.env0.bs b o e).1, ?_⟩, I.env0.bsz, I.env0.funs, fun b hb => ?_, hok, I.bare⟩, ⟨fun p c e => ?_, fun a h => ?_, fun p hp => (ok.wf.tab p hp).ext fun b o e => by rw [msk_out (un.out e)]; exact e⟩, ?_⟩
  · cases q : cs.lookup b with
    | none => rw [msk_out q]; exact (I.env0.bs b o e).2
    | some ob =>
      exfalso
      obtain ⟨⟨p, hp, hpa⟩, _⟩ := h2 b ob q
      have z := I.ok.cab p.1 p.2 (hfn _) (mem p hp)
      rw [hpa] at z
      exact Nat.lt_irrefl _ (Nat.lt_of_lt_of_le (Heap.lt_size (I.ok.bs b o e).1) z)
  · cases q : cs.lookup b with
    | none => rw [msk_out q]; exact I.env0.frf b hb
    | some ob =>
      exfalso
      obtain ⟨⟨p, hp, hpa⟩, _⟩ := h2 b ob q
      have z := I.ok.cab p.1 p.2 (hfn _) (mem p hp)
      rw [hpa] at z
      rcases List.mem_cons.mp (I.stkSub _ hb) with e | e
      · obtain ⟨m, ⟨ob', es, ep, ho, r⟩, _⟩ := I.loc
        obtain ⟨_, h3, v, ed⟩ := h2 b ob q
        rw [e, ho] at h3
        cases h3
        first | (have r1 := r.1; rw [ed] at r1; cases r1; done) | (have r1 := r.2.1; rw [ed] at r1; cases r1; done) | (have r1 := r.2.2.1; rw [ed] at r1; cases r1; done)
      · obtain ⟨_, o1, e1, _⟩ := I.ok.funs.mem e
        exact Nat.lt_irrefl _ (Nat.lt_of_lt_of_le (Heap.lt_size e1) z)
  · obtain ⟨xs, i, r, ⟨h1, h2, h3⟩, h4⟩ := ok.wf.pen p c e
    exact ⟨xs, i, r, ⟨by rw [msk_out (un.out h1)]; exact h1, by rw [msk_out (un.out h2)]; exact h2, h3⟩, h4⟩
  · obtain ⟨⟨o, e, t⟩, np⟩ := ok.wf.fz a h
    exact ⟨⟨o, by rw [msk_out (un.out e)]; exact e, t⟩, np⟩
  · have go : ∀ {vs : List V} {ds : List D}, ArgL G C H id L (cloFrom X.env.cells L.scope.names []) (capsD env js) vs ds → RepL G C (msk H cs) vs ds := by
      intro vs ds a
      induction a with
      | nil => exact .nil
      | cons r _ ih => exact .cons (r.nx nx) ih
      | @lam f c' es _ _ e1 e2 e3 _ ih =>
        obtain ⟨ws, q1, q2⟩ := caps_at ok.env e3
        refine .cons (.fn ((gf.fn _ _ _ _).mpr ⟨L, _, c', cs, hL, nx.xp _ _ e1 keep_lam, nx.xp _ _ e2 keep_code, ⟨?_, CA.inj, fun a o e => msk_in e, fun y c e => ?_, fun i y e => ?_, fun c o e => (h2 c o e).2.2⟩⟩) (q2.nx nx)) ih
        · have z := CA.len
          rw [q1, List.length_map] at z
          exact z
        · obtain ⟨o, eo⟩ := h1 (y, c) (PySem.mem_of_lookup e)
          obtain ⟨v, ev⟩ := (h2 c o eo).2.2
          exact ⟨o, v, eo, ev⟩
        · obtain ⟨c, hc, hv⟩ := CA.has i y e
          refine ⟨c, hc, fun v ev => ?_⟩
          obtain ⟨u, ru, o, eo, ed⟩ := hv v (by rw [q1, List.getElem?_map, ev]; rfl)
          obtain ⟨o', eo'⟩ := h1 (y, c) (PySem.mem_of_lookup hc)
          have z := at_ c o' eo'
          rw [eo] at z
          cases z
          exact ⟨u, o, ru, eo', ed⟩
    exact go ar
end
end Pu
set_option Elab.async false
set_option linter.all false
set_option maxRecDepth 100000
set_option maxHeartbeats 4000000
namespace Pu
open PySem L2 Stp NdefX LamX
open PyProof.Rows hiding St
def plainR (d : D) : T D := grd (plainD d = true) (.ret d)
section
variable {G : GC} {C C' : Cf} {H H' : Hp} {cs : CL}
theorem kn_msk (hc : ∀ c o, cs.lookup c = some o → ∃ v, o.data = .cell v) (st : Step [] C (msk H cs) C' H') : Kn H' cs := fun a o e => st.nx.xp a _ (msk_in e) (keep_cell (hc a o e))
theorem step_unm (un : Un0 H cs) (st : Step [] C (msk H cs) C' H') : Step [] C H (C'.noC cs) (unm H' cs) := by
  have up : ∀ a o, H a = some o → cs.lookup a = none ∧ msk H cs a = some o := fun a o e => ⟨un.out e, by rw [msk_out (un.out e)]; exact e⟩
  refine ⟨fun a o e t h1 h2 => ?_, fun a o e => ?_, ⟨fun a o f e t => ?_, fun a xs e => ?_, fun a o u e => ?_, fun a φ e kp => ?_, st.nx.pn⟩, fun a h => ?_, fun a h => ?_, st.me⟩
  · rw [unm_out (up a o e).1]
    exact st.kp a o (up a o e).2 t h1 h2
  · obtain ⟨o', e'⟩ := st.al a o (up a o e).2
    exact ⟨o', by rw [unm_out (up a o e).1]; exact e'⟩
  · have z := st.nx.fk a o f (up a o e).2 t
    exact ⟨⟨z.1, (up a o e).1⟩, by rw [unm_out (up a o e).1]; exact z.2⟩
  · rw [unm_out (up a _ e).1]
    exact st.nx.tp a xs (up a _ e).2
  · rw [unm_out (up a _ e).1]
    exact st.nx.fp a o u (up a _ e).2
  · rw [unm_out (up a _ e).1]
    exact st.nx.xp a φ (up a _ e).2 kp
  · rcases st.fn a h.1 with z | z | z
    · exact .inl z
    · cases z
    · rw [msk_out h.2] at z
      exact .inr (.inr z)
  · rcases st.pf a h with z | z
    · exact .inl z
    · cases q : cs.lookup a with
      | none => rw [msk_out q] at z; exact .inr z
      | some ob => rw [msk_in q] at z; cases z
end
section
variable {X : Cx} {G : GC} {W : WX} {LT : Nat → Option LamD} {L : LamD} {k id : Nat} {js : List Nat} {pins : List (Addr × Obj)} {σ : St} {H : Hp} {s : Shared} {C : Cf} {n : Nat} {env : Env} {own : List Addr} {f : Addr} {fd : FuncData} {ps : List Str} {mf : List D → T D}
/-- a call with the lambda's cells known -/
theorem run_masked {vs : List V} {ds : List D} {us : List Value} {cs : CL} {Q : VK} {A' : Around} (tk : Takes X W) (F : FnOk X.prog X.w X.K X.mg X.base (L2.CX X.prog X.w) k f fd ps (spM G ps.length mf)) (hr : Room k X.A) (hb : Binds X.K fd ps []) (I : Inv X pins σ H s) (M : Masked X G C n H s vs ds cs) (rv : Vals vs us) (hl : ds.length = ps.length)
    (hq : At G W (rV G false) σ env own C n H ((mf ds).bind plainR) Q) : wpAny (model X.prog X.w) X.A (call (.ref f) us) (EP X pins σ Q) X.xe s := by
  have hsp : spM G ps.length mf vs (msk H cs) (fun v H' => Kn H' cs ∧ ∀ h, HOk X.prog X.w H' h → Q v (unm H' cs)) (fun cls d H' => Kn H' cs ∧ ∀ h, HOk X.prog X.w H' h → W cls d σ (unm H' cs)) := by
    refine ⟨C, n, ds, M.wf, M.rp, hl, T.wp_mono (T.wp_bind hq.wp) (fun d n' _ z C' H' v st wf r => ?_) (fun e n' _ z C' H' cls dx st wf r => ?_)⟩
    · have kn := kn_msk M.cel st
      obtain ⟨hp, z⟩ := grd_wp z
      exact ⟨kn, fun h hok => z _ _ v (step_unm M.un st) (wf_unm hok wf kn M.cel) ((r.px (px_unm kn) hp).view false)⟩
    · have kn := kn_msk M.cel st
      exact ⟨kn, fun h hok => z _ _ cls dx (step_unm M.un st) (wf_unm hok wf kn M.cel) r⟩
  have hvl : us.length = ps.length := by rw [← rv.length, M.rp.length]; exact hl
  have b := hb s us I.kIn (by rw [List.append_nil]; exact hvl)
  rw [List.append_nil] at b
  refine wpAny_call (codeAny_mono (F.run X.A X.stack s (msk H cs) ⟨us, []⟩ us vs _ _ hr M.e0 b rv hsp) fun r s' hq => ?_)
  cases r with
  | error e => exact passAt tk σ pins H s e s' I (cx_of_msk hq M.un M.at_ fun cls d H' B hok z => ⟨z.1, z.2 B hok⟩)
  | ok fl =>
    cases fl with
    | ret u =>
      obtain ⟨v, H', os, bare, un, hok, r, kn, q⟩ := hq
      exact I.after ⟨v, unm H' cs, os, bare, un_of_msk un M.un M.at_ kn hok, hok_unm hok kn, r, q _ hok⟩
    | next => exact False.elim hq
    | brk => exact False.elim hq
    | cont => exact False.elim hq
variable {x : Str} {p pos : Pos} {e : Expr} {es : List Expr} {ma : Env → T (List D)}
def callL (np : Nat) (mf : List D → T D) (ds : List D) : T D := grd (ds.length = np) ((mf ds).bind plainR)
/-- f(.., lambda ..: .., ..) -/
theorem s_callL (gf : GF G LT) (hL : LT id = some L) (hfn : ∀ x, X.fn x = true) (hfree : ∀ y ∈ L.scope.names, y.2 = .free → X.env.scope.names.lookup y.1 = some .cell ∨ X.env.scope.names.lookup y.1 = some .free) (hfr : ∀ y ∈ L.fr, (y, NameKind.free) ∈ L.scope.names) (hjs : js.map (fun j => X.N[j]?) = L.fr.map some)
    (tk : Takes X W) (F : FnOk X.prog X.w X.K X.mg X.base (L2.CX X.prog X.w) k f fd ps (spM G ps.length mf)) (hr : Room k X.A) (hg : Gl X x) (hm : X.mg x = some (.ref f)) (hk : PySem.W.keepIn X.K (.ref f) = true) (hb : Binds X.K fd ps [])
    (ha : PA X (e :: es) (tAL X G W id L js ma)) (hdb : (x == ("__debug__" : Str)) = false := by decide) (he : starEach (e :: es) X.env = (false, eval e X.env) :: starEach es X.env := by rfl) (hpl : (backTo pos (starEach es X.env)).any (·.1) = false := by rfl) :
    PE X (.Call (.Name x p) (e :: es) [] pos) (tQ G W false (qN (callL ps.length mf) ma)) := by
  refine ⟨fun pins s σ H Q I h => ?_⟩
  obtain ⟨C, n, env, own, h⟩ := h
  refine wpAny_Call_Name_kw (ld_glob I hg hm ?_ hdb)
  refine PySem.W.callWith_K (first := []) (h₀ := X.base) I.ok.mod.kin hk (thn (ha.run pos pins s σ H _ I ⟨C, n, env, own, h.bind (R := rAL X G id L (capsD env js))⟩) fun us s2 ⟨vs, H2, I2, r2, C2, n2, ds, s2', r2', h2⟩ => ⟨I2.kIn, ?_⟩) he hpl
  show wpAny _ _ (call (.ref f) us) _ _ _
  obtain ⟨hl, h2⟩ := h2.grd
  obtain ⟨cs, M⟩ := mask_args gf hL hfn hfree hfr hjs I2 h2.ok r2'
  exact run_masked (A' := X.A) tk F hr hb I2 M r2 hl h2
end
end Pu
set_option Elab.async false
set_option linter.all false
set_option maxRecDepth 100000
set_option maxHeartbeats 4000000
namespace Pu
open PySem L2 Stp NdefX LamX
open PyProof.Rows hiding St
section
variable {X : Cx} {pins : List (Addr × Obj)} {σ : L2.St} {H : Hp} {s : Shared}
end
section
variable {X : Cx} {x n y : Str} {c : Value} {i j : Nat} {body : List Stmt} {np yp vp ap pos pos' : Pos} {tb : WX → TS} {Wout : WX}
end
def catchS (xm : Nat → Option Bool) (i j : Nat) : Fl → T Fl
  | .ex e env => (match e with
    | .exc c [] => (match xm c with
      | some true => .ret (.nx (((env.set i (some (.fz (.exc c [])))).set j (some (.fz (.exc c [])))).set i none))
      | some false => .ret (.ex (.exc c []) env)
      | none => .fail)
    | _ => .fail)
  | r => .ret r
def tryS (xm : Nat → Option Bool) (i j : Nat) (m : Env → T Fl) : Env → T Fl := fun env => (m env).bind (catchS xm i j)
section
variable {X : Cx} {G : GC} {W : WX} {xm : Nat → Option Bool} {x n y : Str} {c : Value} {i j : Nat} {body : List Stmt} {np yp vp ap pos pos' : Pos} {m : Env → T Fl}
end
end Pu
set_option Elab.async false
set_option linter.all false
set_option maxRecDepth 100000
set_option maxHeartbeats 4000000
namespace Pu
open PySem L2 Stp NdefX LamX
open PyProof.Rows hiding St
def raiseS (c : Nat) : Env → T Fl := fun env => .ret (.ex (.exc c []) env)
/-- what an own exception class without an __init__ has -/
structure RaiC (K : PySem.W.Frag) (bm : List Value) (newId : String) (A : Addr) : Prop where
  ex : PySem.W.excIn K A bm newId = true
  kp : PySem.W.keepIn K (.ref A) = true
  sb : PySem.W.subIn K (.ref A) (.type "BaseException") = some true
  ty : PySem.W.typeIn K (.ref A) = some (.type "type")
section
variable {X : Cx} {G : GC} {W : WX} {c : Nat} {A : Addr} {x m : Str} {j : Nat} {p p2 pos pos' : Pos} {bm : List Value} {B newId initId : String}
theorem st_raise (hk : X.K = G.K) (hc : X.calm = true) (tk : Takes X W) (F : ExcBaseFacts B newId initId bm) (R : RaiC G.K bm newId A) (hA : G.cA c = some A) (hg : Gl X x) (gC : X.mg x = some (.ref A)) (hdb : (x == ("__debug__" : Str)) = false := by decide) :
    PS X (.Raise (some (.Call (.Name x p) [.Constant (.str m) j p2] [] pos)) none pos') (tS G W (raiseS c)) := by
  refine PS.imp (ps_raise hc tk (pmk_own F (by rw [hk]; exact R.ex) gC (by rw [hk]; exact R.kp) (raises_own (by rw [hk]; exact R.sb) (by rw [hk]; exact R.ty)) hg hdb)) fun E σ H h => ?_
  obtain ⟨C, n, env, us, h⟩ := h
  exact h.ret0 σ _ _ h.ok ⟨c, A, rfl, hA, rfl, rfl⟩
end
def drawF : List D → T D
  | [.pen, .int u] => if 0 < u ∧ u < 1073741824 then .draw u.toNat fun d => .ret (.int d) else .fail
  | _ => .fail
section
variable {P : Program} {w : World} {K : PySem.W.Frag} {mg : Str → Option Value} {base : Heap} {G : GC} {k : Nat} {f : Addr} {fd : FuncData} {ps : List Str}
theorem fn_cx {sp : Sp} (F : FnOk P w K mg base C8.CX0 k f fd ps sp) : FnOk P w K mg base (L2.CX P w) k f fd ps sp :=
  ⟨F.len, fun A outer s H args us vs Q E hr e0 hb r q => codeAny_mono (F.run A outer s H args us vs Q E hr e0 hb r q) fun r s' h => by
    cases r with
    | error e => exact False.elim h
    | ok fl => cases fl <;> exact h⟩
theorem step_but {C : Cf} {n : Nat} {H H' : Hp} {p c : Addr} (w : Wf G C n H) (hp : C.pen = some (p, c)) (b : But p H H') (P' : PenAt H' p c (n + 1)) : Step [] C H C H' ∧ Wf G C (n + 1) H' := by
  have pa : C.pa = [p, c] := by unfold Cf.pa; rw [hp]
  obtain ⟨cs, i, r, P, _⟩ := w.pen p c hp
  have ne : ∀ a o, H a = some o → (∀ xs, o ≠ .lst xs) → a ≠ p := fun a o e q z => by
    rw [z, P.pen] at e
    cases e
    exact q _ rfl
  refine ⟨⟨fun a o e _ _ na => b a o (fun z => na (by rw [pa, z]; exact List.mem_cons_self ..)) e, fun a o e => ?_, ⟨fun a o f e _ => ⟨f, b a o (fun z => (w.fz a f).2 (by rw [pa, z]; exact List.mem_cons_self ..)) e⟩, fun a xs e => b a _ (ne a _ e fun _ z => by cases z) e, fun a o u e => b a _ (ne a _ e fun _ z => by cases z) e, fun a φ e _ => b a _ (ne a _ e fun _ z => by cases z) e, fun _ h => h⟩, fun a h => .inl h, fun a h => .inl h, rfl⟩, ⟨fun p' c' e => ?_, fun a h => ?_, fun q hq => ?_⟩⟩
  · by_cases ha : a = p
    · rw [ha]
      exact P'.atP
    · exact ⟨o, b a o ha e⟩
  · rw [hp] at e
    cases e
    exact P'
  · obtain ⟨⟨o, e, t⟩, np⟩ := w.fz a h
    exact ⟨⟨o, b a o (fun z => np (by rw [pa, z]; exact List.mem_cons_self ..)) e, t⟩, np⟩
  · obtain ⟨qs, h1, h2, h3⟩ := w.tab q hq
    refine ⟨qs, b _ _ (ne _ _ h1 fun _ z => by cases z) h1, h2, fun pos cv hc => ?_⟩
    obtain ⟨c2, e1, e2⟩ := h3 pos cv hc
    exact ⟨c2, e1, b _ _ (ne _ _ e2 fun _ z => by cases z) e2⟩
theorem fn_draw (F : FnOk P w K mg base (L2.CX P w) k f fd ["_law_pen_here", "_law_under"] spDraw) : FnOk P w K mg base (L2.CX P w) k f fd ["_law_pen_here", "_law_under"] (spM G 2 drawF) := by
  refine F.imp fun vs H Q E h => ?_
  obtain ⟨C, n, ds, wf, rl, hl, w⟩ := h
  cases rl with
  | nil => cases hl
  | cons r1 rl =>
    cases rl with
    | nil => cases hl
    | cons r2 rl =>
      cases rl with
      | cons _ _ => cases hl
      | nil =>
        cases r1 <;> try exact False.elim w
        case pen p c hp =>
          cases r2 <;> try exact False.elim w
          case int u =>
            replace w : T.wp (if 0 < u ∧ u < 1073741824 then T.draw u.toNat fun d => .ret (D.int d) else .fail) n _ _ := w
            by_cases hu : 0 < u ∧ u < 1073741824
            · rw [if_pos hu] at w
              obtain ⟨_, _, hn, w⟩ := w
              refine ⟨p, c, u, n, rfl, wf.pen p c hp, hn, hu.1, hu.2, fun H' d b P' h0 h1 => ?_⟩
              obtain ⟨st, wf'⟩ := step_but wf hp b P'
              have z := w d.toNat (by omega)
              have e : ((d.toNat : Nat) : Int) = d := Int.toNat_of_nonneg h0
              exact z C H' (.int d) st wf' (by rw [e]; exact .int d)
            · rw [if_neg hu] at w; exact False.elim w
end
end Pu
set_option Elab.async false
set_option linter.all false
set_option maxRecDepth 100000
set_option maxHeartbeats 4000000
namespace Pu
open PySem L2 Stp NdefX LamX
open PyProof.Rows hiding St
def kP : Key → PyData
  | .inl i => .int i
  | .inr x => .str x
mutual
def D.pr : D → Option PyData
  | .non => some .none
  | .bl b => some (.bool b)
  | .int i => some (.int i)
  | .str x => some (.str x)
  | .tup xs => (D.prL xs).map .tuple
  | .wt xs => (D.prL xs).map .tuple
  | .lst xs => (D.prL xs).map .list
  | .dK kvs => (D.prK kvs).map .dict
  | .dT kvs => (D.prT kvs).map .dict
  | .dN kvs => (D.prN kvs).map .dict
  | _ => none
def D.prL : List D → Option (List PyData)
  | [] => some []
  | x :: xs => match D.pr x, D.prL xs with
    | some a, some b => some (a :: b)
    | _, _ => none
def D.prK : List (Key × D) → Option (List (PyData × PyData))
  | [] => some []
  | (k, x) :: xs => match D.pr x, D.prK xs with
    | some a, some b => some ((kP k, a) :: b)
    | _, _ => none
def D.prT : List (List Key × D) → Option (List (PyData × PyData))
  | [] => some []
  | (k, x) :: xs => match D.pr x, D.prT xs with
    | some a, some b => some ((.tuple (k.map kP), a) :: b)
    | _, _ => none
def D.prN : List (D × D) → Option (List (PyData × PyData))
  | [] => some []
  | (k, x) :: xs => match D.pr k, D.pr x, D.prN xs with
    | some a, some b, some c => some ((a, b) :: c)
    | _, _, _ => none
end
theorem prn_cons {k a : Option PyData} {b : Option (List (PyData × PyData))} {zs : List (PyData × PyData)} (e : (match k, a, b with | some x, some y, some z => some ((x, y) :: z) | _, _, _ => none) = some zs) : ∃ x y z, k = some x ∧ a = some y ∧ b = some z ∧ zs = (x, y) :: z := by
  cases k with
  | none => cases e
  | some x =>
    cases a with
    | none => cases e
    | some y =>
      cases b with
      | none => cases e
      | some z => cases e; exact ⟨x, y, z, rfl, rfl, rfl, rfl⟩
theorem pr_cons {a : Option PyData} {b : Option (List PyData)} {zs : List PyData} (e : (match a, b with | some x, some y => some (x :: y) | _, _ => none) = some zs) : ∃ x y, a = some x ∧ b = some y ∧ zs = x :: y := by
  cases a with
  | none => cases e
  | some x =>
    cases b with
    | none => cases e
    | some y => cases e; exact ⟨x, y, rfl, rfl, rfl⟩
theorem prk_cons {k : PyData} {a : Option PyData} {b : Option (List (PyData × PyData))} {zs : List (PyData × PyData)} (e : (match a, b with | some x, some y => some ((k, x) :: y) | _, _ => none) = some zs) : ∃ x y, a = some x ∧ b = some y ∧ zs = (k, x) :: y := by
  cases a with
  | none => cases e
  | some x =>
    cases b with
    | none => cases e
    | some y => cases e; exact ⟨x, y, rfl, rfl, rfl⟩
theorem pr_map {α : Type} {f : α → PyData} {a : Option α} {z : PyData} (e : a.map f = some z) : ∃ x, a = some x ∧ z = f x := by
  cases a with
  | none => cases e
  | some x => cases e; exact ⟨x, rfl, rfl⟩
theorem keys_read {h : Heap} : ∀ {ks : List Key} {us : List Value}, Vals (ks.map kV) us → ReadsAll h us (ks.map kP) []
  | [], _, .nil => .nil
  | .inl i :: ks, _, .cons (b := u) r l => by
    obtain ⟨t, rfl⟩ := (show ∃ t, u = Value.int i t from r)
    exact ReadsAll.cons (as := []) (bs := []) (.int i t) (keys_read l)
  | .inr x :: ks, _, .cons (b := u) r l => by
    obtain ⟨t, rfl⟩ := (show ∃ t, u = Value.str x t from r)
    exact ReadsAll.cons (as := []) (bs := []) (.str x t) (keys_read l)
/-- the value u shows x: it is read so, and repr tells it -/
def Shw (P : Program) (w : World) (h : Heap) (u : Value) (x : PyData) : Prop := ∃ as, Reads h u x as ∧ (x.showable = true → x.shown.length ≤ sizeLine → ∃ bs, ReadAtMost h x.depth bs ∧ ReprK P w bs h x.depth u x.shown)
def ShwL (P : Program) (w : World) (h : Heap) (us : List Value) (xs : List PyData) : Prop := ∃ as, ReadsAll h us xs as ∧ (PyData.showableAll xs = true → (∀ t ∈ PyData.shownAll xs, t.length ≤ sizeLine) → ∃ bs, ReadAtMost h (PyData.depthAll xs) bs ∧ ReprAllK P w bs h (PyData.depthAll xs) us (PyData.shownAll xs))
section
variable {P : Program} {w : World} {h : Heap}
theorem Shw.flat {u : Value} {x : PyData} (r : Reads h u x []) : Shw P w h u x := ⟨[], r, fun h1 h2 => ReprK.of_reads r h1 (fun _ => by simp) h2⟩
theorem ShwL.nil : ShwL P w h [] [] := ⟨[], .nil, fun _ _ => ⟨[], (fun _ h => nomatch h), by simp only [PyData.shownAll]; exact .nil⟩⟩
theorem ShwL.cons {u : Value} {x : PyData} {us : List Value} {xs : List PyData} (a : Shw P w h u x) (b : ShwL P w h us xs) : ShwL P w h (u :: us) (x :: xs) := by
  obtain ⟨as, r1, k1⟩ := a
  obtain ⟨bs, r2, k2⟩ := b
  refine ⟨as ++ bs, .cons r1 r2, fun hs hz => ?_⟩
  obtain ⟨hs1, hs2⟩ : x.showable = true ∧ PyData.showableAll xs = true := by simpa [PyData.showableAll] using hs
  obtain ⟨c1, m1, z1⟩ := k1 hs1 (hz _ (by simp only [PyData.shownAll]; exact List.mem_cons_self ..))
  obtain ⟨c2, m2, z2⟩ := k2 hs2 fun t ht => hz t (by simp only [PyData.shownAll]; exact List.mem_cons_of_mem _ ht)
  refine ⟨c1 ++ c2, fun b hb => ?_, ?_⟩
  · simp only [PyData.depthAll]
    rcases List.mem_append.mp hb with y | y
    · obtain ⟨d, es, q1, q2⟩ := m1 b y
      exact ⟨d, es, q1, Nat.le_trans q2 (Nat.le_max_left _ _)⟩
    · obtain ⟨d, es, q1, q2⟩ := m2 b y
      exact ⟨d, es, q1, Nat.le_trans q2 (Nat.le_max_right _ _)⟩
  · simp only [PyData.depthAll, PyData.shownAll]
    exact .cons ((z1.more fun b y => List.mem_append_left _ y).level_le (Nat.le_max_left _ _)) (z2.more_le (fun b y => List.mem_append_right _ y) (Nat.le_max_right _ _))
theorem Shw.list {a : Addr} {o : Obj} {its : Array Value} {n : Nat} {xs : List PyData} (h1 : h.get? a = some o) (h2 : o.cls = .type "list") (h3 : o.data = .seq its n) (k : ShwL P w h its.toList xs) : Shw P w h (.ref a) (.list xs) := by
  obtain ⟨as, r, k⟩ := k
  have rr : Reads h (.ref a) (.list xs) (a :: as) := .list h1 h2 h3 r
  refine ⟨_, rr, fun hs hz => ?_⟩
  have hz2 : (listText (PyData.shownAll xs)).length ≤ sizeLine := by simpa only [PyData.shown] using hz
  obtain ⟨bs, hb, z⟩ := k (by simpa [PyData.showable] using hs) fun t ht => Nat.le_trans (listText_mem_le ht) hz2
  have na : a ∉ bs := not_mem_of_deeper rr (by simp only [PyData.depth]; omega) hb
  refine ⟨a :: bs, ReadAtMost.cons rr (by simp only [PyData.depth]; omega) hb, ?_⟩
  simp only [PyData.depth, PyData.shown]
  obtain ⟨l⟩ := its
  cases l with
  | nil =>
    have r : ReadsAll h [] xs as := r
    cases r
    simp only [PyData.shownAll, listText_nil]
    exact ReprK.listEmpty h1 h2 h3
  | cons y l => exact ReprK.list h1 h2 h3 na (by simpa using z.length_eq) fun i y e => z.item i y (by simpa using e)
theorem Shw.tuple {a : Addr} {o : Obj} {its : Array Value} {n : Nat} {xs : List PyData} (h1 : h.get? a = some o) (h2 : o.cls = .type "tuple") (h3 : o.data = .seq its n) (k : ShwL P w h its.toList xs) : Shw P w h (.ref a) (.tuple xs) := by
  obtain ⟨as, r, k⟩ := k
  have rr : Reads h (.ref a) (.tuple xs) as := .tuple h1 h2 h3 r
  refine ⟨_, rr, fun hs hz => ?_⟩
  have hz2 : (tupleText (PyData.shownAll xs)).length ≤ sizeLine := by simpa only [PyData.shown] using hz
  obtain ⟨bs, hb, z⟩ := k (by simpa [PyData.showable] using hs) fun t ht => Nat.le_trans (tupleText_mem_le ht) hz2
  have na : a ∉ bs := not_mem_of_deeper rr (by simp only [PyData.depth]; omega) hb
  refine ⟨a :: bs, ReadAtMost.cons rr (by simp only [PyData.depth]; omega) hb, ?_⟩
  simp only [PyData.depth, PyData.shown]
  exact ReprK.tuple h1 h2 h3 na z
theorem Shw.dict {a : Addr} {o : Obj} {es : Array DictEntry} {n : Nat} {kvs : List (PyData × PyData)} (h1 : h.get? a = some o) (h2 : o.cls = .type "dict") (h3 : o.data = .dict es n) (ns : (a == sysModules) = false) (kk : ShwL P w h (es.toList.map (·.key)) (kvs.map (·.1))) (kv : ShwL P w h (es.toList.map (·.val)) (kvs.map (·.2))) : Shw P w h (.ref a) (.dict kvs) := by
  obtain ⟨as, r1, k1⟩ := kk
  obtain ⟨bs, r2, k2⟩ := kv
  have rr : Reads h (.ref a) (.dict kvs) (a :: as ++ bs) := .dict h1 h2 h3 r1 r2
  refine ⟨_, rr, fun hs hz => ?_⟩
  have hz2 : (dictText (PyData.shownKv kvs)).length ≤ sizeLine := by simpa only [PyData.shown] using hz
  obtain ⟨hs1, hs2⟩ := PyData.showableKv_split kvs (by simpa [PyData.showable] using hs)
  obtain ⟨c1, m1, z1⟩ := k1 hs1 fun t ht => by
    obtain ⟨p, hp, hl⟩ := PyData.shownKv_key_le kvs t ht
    exact Nat.le_trans hl (Nat.le_trans (dictText_mem_le hp) hz2)
  obtain ⟨c2, m2, z2⟩ := k2 hs2 fun t ht => by
    obtain ⟨p, hp, hl⟩ := PyData.shownKv_val_le kvs t ht
    exact Nat.le_trans hl (Nat.le_trans (dictText_mem_le hp) hz2)
  have hb : ReadAtMost h (PyData.depthKv kvs) (c1 ++ c2) := (m1.mono (PyData.depthAll_keys_le kvs)).append (m2.mono (PyData.depthAll_vals_le kvs))
  have na : a ∉ c1 ++ c2 := not_mem_of_deeper rr (by simp only [PyData.depth]; omega) hb
  refine ⟨a :: (c1 ++ c2), ReadAtMost.cons rr (by simp only [PyData.depth]; omega) hb, ?_⟩
  simp only [PyData.depth, PyData.shown, PyData.shownKv_eq]
  exact ReprK.dict h1 h2 h3 ns na (ReprEntriesK.of_two es.toList _ _ (z1.more_le (fun b y => List.mem_append_left _ y) (PyData.depthAll_keys_le kvs)) (z2.more_le (fun b y => List.mem_append_right _ y) (PyData.depthAll_vals_le kvs)))
theorem keys_show {ks : List Key} {us : List Value} (r : Vals (ks.map kV) us) : ShwL P w h us (ks.map kP) :=
  ⟨[], keys_read r, fun h1 h2 => ReprAllK.of_readsAll (keys_read r) h1 (fun _ => by simp) h2⟩
end
section
variable {X : Cx} {pins : List (Addr × Obj)} {σ : St} {H : Hp} {s : Shared} {G : GC} {C : Cf}
mutual
theorem Rep.shows (hk : X.K = G.K) (I : Inv X pins σ H s) : ∀ {v : V} {d : D} {u : Value} {x : PyData}, Rep G C H v d → RelV v u → d.pr = some x → Shw X.prog X.w s.heap u x
  | _, _, u, _, .non, r, e => by cases e; cases (show u = Value.none from r); exact .flat .none
  | _, _, u, _, .bl b, r, e => by cases e; cases (show u = Value.bool b from r); exact .flat (.bool b)
  | _, _, u, _, .int i, r, e => by cases e; obtain ⟨t, rfl⟩ := (show ∃ t, u = Value.int i t from r); exact .flat (.int i t)
  | _, _, u, _, .str y, r, e => by cases e; obtain ⟨t, rfl⟩ := (show ∃ t, u = Value.str y t from r); exact .flat (.str y t)
  | _, _, u, x, .tup (a := a) (ds := ds) h l, r, e => by
    obtain ⟨xs, e1, rfl⟩ := pr_map (show (D.prL ds).map PyData.tuple = some x from e)
    cases (show u = Value.ref a from r)
    obtain ⟨_, its, rv, o, h1, h2, n, h3⟩ := (show ObjOk X.prog X.w H s.heap a _ from I.hok a _ h)
    exact .tuple h1 h2 h3 (RepL.shows hk I l rv e1)
  | _, _, u, x, .wt (a := a) (vs := vs) (ds := ds) h l, r, e => by
    obtain ⟨xs, e1, rfl⟩ := pr_map (show (D.prL ds).map PyData.tuple = some x from e)
    cases (show u = Value.ref a from r)
    rcases h with (h | ⟨o, h⟩) | ⟨o, its, n, h1, h2, h3, _, rv⟩
    · cases h
    · cases h
    · exact .tuple (I.kIn a o (by rw [hk]; exact h1)) h2 h3 (RepL.shows hk I l rv e1)
  | _, _, u, x, .lst (a := a) (ds := ds) f h l, r, e => by
    obtain ⟨xs, e1, rfl⟩ := pr_map (show (D.prL ds).map PyData.list = some x from e)
    cases (show u = Value.ref a from r)
    obtain ⟨_, its, n, rv, h1⟩ := (show ObjOk X.prog X.w H s.heap a _ from I.hok a _ h)
    exact .list h1 rfl rfl (RepL.shows hk I l rv e1)
  | _, _, u, x, .dK (a := a) (ds := ds) f h l, r, e => by
    obtain ⟨xs, e1, rfl⟩ := pr_map (show (D.prK ds).map PyData.dict = some x from e)
    cases (show u = Value.ref a from r)
    obtain ⟨_, na, vs', rv, o, es, ep, h1, h2, h3, _, hp, _⟩ := (show ObjOk X.prog X.w H s.heap a _ from I.hok a _ h)
    obtain ⟨q0, q1⟩ := RepK.shows hk I l rv hp e1
    exact .dict h1 h2.1 h3 na q0 q1
  | _, _, u, x, .dT (a := a) (ds := ds) f h l, r, e => by
    obtain ⟨xs, e1, rfl⟩ := pr_map (show (D.prT ds).map PyData.dict = some x from e)
    cases (show u = Value.ref a from r)
    obtain ⟨_, na, ys, rv, o, es, ep, h1, h2, h3, h4, _⟩ := (show ObjOk X.prog X.w H s.heap a _ from I.hok a _ h)
    obtain ⟨q0, q1⟩ := RepT.shows hk I l rv e1
    exact .dict h1 h2.1 h3 na (by rw [h4]; exact q0) (by rw [h4]; exact q1)
  | _, _, _, _, .obj _ _ _ _, _, e => by cases e
  | _, _, _, _, .exc _ _, _, e => by cases e
  | _, _, _, _, .fn _ _, _, e => by cases e
  | _, _, _, _, .ty _, _, e => by cases e
  | _, _, _, _, .cls _, _, e => by cases e
  | _, _, _, _, .pen _, _, e => by cases e
  | _, _, _, _, .scr _, _, e => by cases e
  | _, _, _, _, .bw _ _, _, e => by cases e
  | _, _, _, _, .rf _, _, e => by cases e
  | _, _, u, x, .dN (a := a) (ds := ds) f h z l, r, e => by
    obtain ⟨xs, e1, rfl⟩ := pr_map (show (D.prN ds).map PyData.dict = some x from e)
    cases (show u = Value.ref a from r)
    obtain ⟨es, ep, hd, ys, e4, rp⟩ := z.da
    obtain ⟨q0, q1⟩ := RepN.shows hk I l rp e1
    exact .dict (dnx_at I.hok h) z.ed.1 hd z.sm (by rw [e4]; exact q0) (by rw [e4]; exact q1)
theorem RepN.shows (hk : X.K = G.K) (I : Inv X pins σ H s) : ∀ {vs : List (NestedKey × V × V)} {ds : List (D × D)} {us : List (NestedKey × Value × Value)} {xs : List (PyData × PyData)}, RepN G C H vs ds → Paired (fun (p : NestedKey × V × V) (q : NestedKey × Value × Value) => p.1 = q.1 ∧ L2.RelV p.2.1 q.2.1 ∧ L2.RelV p.2.2 q.2.2) vs us → D.prN ds = some xs → ShwL X.prog X.w s.heap ((us.map (entF G.hN)).map (·.key)) (xs.map (·.1)) ∧ ShwL X.prog X.w s.heap ((us.map (entF G.hN)).map (·.val)) (xs.map (·.2))
  | _, _, _, _, .nil, .nil, e => by cases e; exact ⟨.nil, .nil⟩
  | _, _, _, xs, .cons (kd := kd) (d := d) (ds := ds) _ rk r l, .cons rv t, e => by
    obtain ⟨y, z, ys, e1, e2, e3, rfl⟩ := prn_cons (show (match D.pr kd, D.pr d, D.prN ds with | some x, some y, some z => some ((x, y) :: z) | _, _, _ => none) = some xs from e)
    obtain ⟨_, rkv, rv⟩ := rv
    obtain ⟨q0, q1⟩ := RepN.shows hk I l t e3
    exact ⟨.cons (Rep.shows hk I rk rkv e1) q0, .cons (Rep.shows hk I r rv e2) q1⟩
theorem RepL.shows (hk : X.K = G.K) (I : Inv X pins σ H s) : ∀ {vs : List V} {ds : List D} {us : List Value} {xs : List PyData}, RepL G C H vs ds → Vals vs us → D.prL ds = some xs → ShwL X.prog X.w s.heap us xs
  | _, _, _, _, .nil, .nil, e => by cases e; exact .nil
  | _, _, _, xs, .cons (d := d) (ds := ds) r l, .cons rv t, e => by
    obtain ⟨y, ys, e1, e2, rfl⟩ := pr_cons (show (match D.pr d, D.prL ds with | some a, some b => some (a :: b) | _, _ => none) = some xs from e)
    exact .cons (Rep.shows hk I r rv e1) (RepL.shows hk I l t e2)
theorem RepK.shows (hk : X.K = G.K) (I : Inv X pins σ H s) : ∀ {vs : List (Key × V)} {ds : List (Key × D)} {us : List (Key × Value)} {es : List DictEntry} {xs : List (PyData × PyData)}, RepK G C H vs ds → KV vs us → Pairs (mixKind X.prog X.w) es us → D.prK ds = some xs → ShwL X.prog X.w s.heap (es.map (·.key)) (xs.map (·.1)) ∧ ShwL X.prog X.w s.heap (es.map (·.val)) (xs.map (·.2))
  | _, _, _, _, _, .nil, .nil, .nil, e => by cases e; exact ⟨.nil, .nil⟩
  | _, _, _, _, xs, .cons (k := k) (d := d) (ds := ds) r l, .cons rv t, .cons (e := en) h1 h2 p, e => by
    obtain ⟨y, ys, e1, e2, rfl⟩ := prk_cons (show (match D.pr d, D.prK ds with | some a, some b => some ((kP k, a) :: b) | _, _ => none) = some xs from e)
    obtain ⟨rk, rv⟩ := rv
    obtain ⟨q0, q1⟩ := RepK.shows hk I l t p e2
    refine ⟨?_, by rw [List.map_cons, List.map_cons, h2]; exact .cons (Rep.shows hk I r rv e1) q1⟩
    rw [List.map_cons, List.map_cons]
    refine .cons (.flat ?_) q0
    have h1 : keyIs _ en.key = true := h1
    rw [← rk] at h1
    rcases keyIs_shape h1 with ⟨i, t, e3, e4⟩ | ⟨x, t, e3, e4⟩
    · have e3 : k = _ := e3
      rw [e4, e3]; exact .int i t
    · have e3 : k = _ := e3
      rw [e4, e3]; exact .str x t
theorem RepT.shows (hk : X.K = G.K) (I : Inv X pins σ H s) : ∀ {vs : List (List Key × V)} {ds : List (List Key × D)} {us : List (List Key × Addr × Value)} {xs : List (PyData × PyData)}, RepT G C H vs ds → Paired (fun (p : List Key × V) (q : List Key × Addr × Value) => p.1 = q.1 ∧ H q.2.1 = some (.tup (p.1.map kV)) ∧ RelV p.2 q.2.2) vs us → D.prT ds = some xs → ShwL X.prog X.w s.heap ((us.map (entryOfKey (tupleKind (mixKind X.prog X.w)))).map (·.key)) (xs.map (·.1)) ∧ ShwL X.prog X.w s.heap ((us.map (entryOfKey (tupleKind (mixKind X.prog X.w)))).map (·.val)) (xs.map (·.2))
  | _, _, _, _, .nil, .nil, e => by cases e; exact ⟨.nil, .nil⟩
  | _, _, _, xs, .cons (k := k) (d := d) (ds := ds) r l, .cons rv t, e => by
    obtain ⟨y, ys, e1, e2, rfl⟩ := prk_cons (show (match D.pr d, D.prT ds with | some a, some b => some ((.tuple (k.map kP), a) :: b) | _, _ => none) = some xs from e)
    obtain ⟨rk, rt, rv⟩ := rv
    obtain ⟨q0, q1⟩ := RepT.shows hk I l t e2
    obtain ⟨_, its, rv2, o, g1, g2, n, g3⟩ := (show ObjOk X.prog X.w H s.heap _ _ from I.hok _ _ rt)
    exact ⟨.cons (.tuple g1 g2 g3 (by simpa using keys_show rv2)) q0, .cons (Rep.shows hk I r rv e1) q1⟩
end
end
end Pu
set_option Elab.async false
set_option linter.all false
set_option maxRecDepth 100000
set_option maxHeartbeats 4000000
namespace Pu
open PySem L2 Stp NdefX LamX
open PyProof.Rows hiding St
section
variable {P : Program} {w : World} {A : Around} {E : Value → Shared → Prop} {s : Shared} {a : Addr} {o : Obj} {Q : Value → Shared → Prop}
theorem top_list {its : Array Value} {n : Nat} {xs : List PyData} (h1 : s.heap.get? a = some o) (h2 : o.cls = .type "list") (h3 : o.data = .seq its n) (k : ShwL P w s.heap its.toList xs) (hs : PyData.showableAll xs = true) (hz : (listText (PyData.shownAll xs)).length ≤ sizeLine) (hg : A.guards = some []) (hu : A.units + (PyData.depthAll xs + 2) < cLine)
    (hQ : ∀ h' u tk, (∀ b o, s.heap.get? b = some o → h'.get? b = some o) → Q (.str (listText (PyData.shownAll xs)) u) { s with heap := h', toks := tk }) : wpAny (model P w) A (call (.builtin "repr") [.ref a]) Q E s := by
  obtain ⟨as, r, k⟩ := k
  have rr : Reads s.heap (.ref a) (.list xs) (a :: as) := .list h1 h2 h3 r
  obtain ⟨bs, hb, z⟩ := k hs fun t ht => Nat.le_trans (listText_mem_le ht) hz
  have na : a ∉ bs := not_mem_of_deeper rr (by simp only [PyData.depth]; omega) hb
  refine call_repr_slot (by omega) ⟨o, h1, h2⟩ F.slot_list_repr.toG ?_
  obtain ⟨l⟩ := its
  cases l with
  | nil =>
    have r : ReadsAll s.heap [] xs as := r
    cases r
    simp only [PyData.shownAll, listText_nil] at hQ
    exact call_list_repr_empty ⟨o, h1, h2⟩ h1 h3 ⟨_, _, rfl, hQ s.heap _ _ fun _ _ e => e⟩
  | cons y l =>
    exact call_list_reprK (A := A.in1) h1 h2 h3 na (by simpa using z.length_eq) (fun i y e => z.item i y (by simpa using e)) hg (fun b _ => Clear.nil b) (by show A.units + 1 + _ < cLine; omega) (fun _ _ e => e) (fun h' u tk q => ⟨_, _, rfl, hQ h' u tk q⟩) hz
theorem top_tuple {its : Array Value} {n : Nat} {xs : List PyData} (h1 : s.heap.get? a = some o) (h2 : o.cls = .type "tuple") (h3 : o.data = .seq its n) (k : ShwL P w s.heap its.toList xs) (hs : PyData.showableAll xs = true) (hz : (tupleText (PyData.shownAll xs)).length ≤ sizeLine) (hg : A.guards = some []) (hu : A.units + (PyData.depthAll xs + 2) < cLine)
    (hQ : ∀ h' u tk, (∀ b o, s.heap.get? b = some o → h'.get? b = some o) → Q (.str (tupleText (PyData.shownAll xs)) u) { s with heap := h', toks := tk }) : wpAny (model P w) A (call (.builtin "repr") [.ref a]) Q E s := by
  obtain ⟨as, r, k⟩ := k
  have rr : Reads s.heap (.ref a) (.tuple xs) as := .tuple h1 h2 h3 r
  obtain ⟨bs, hb, z⟩ := k hs fun t ht => Nat.le_trans (tupleText_mem_le ht) hz
  have na : a ∉ bs := not_mem_of_deeper rr (by simp only [PyData.depth]; omega) hb
  refine call_repr_slot (by omega) ⟨o, h1, h2⟩ F.slot_tuple_repr ?_
  exact call_tuple_reprK (A := A.in1) h1 h2 h3 na z hg (fun b _ => Clear.nil b) (by show A.units + 1 + _ < cLine; omega) (fun _ _ e => e) (fun h' u tk q => ⟨_, _, rfl, hQ h' u tk q⟩) hz
theorem top_dict {es : Array DictEntry} {n : Nat} {kvs : List (PyData × PyData)} (h1 : s.heap.get? a = some o) (h2 : o.cls = .type "dict") (h3 : o.data = .dict es n) (ns : (a == sysModules) = false) (kk : ShwL P w s.heap (es.toList.map (·.key)) (kvs.map (·.1))) (kv : ShwL P w s.heap (es.toList.map (·.val)) (kvs.map (·.2)))
    (hs : PyData.showableKv kvs = true) (hz : (dictText (PyData.shownKv kvs)).length ≤ sizeLine) (hg : A.guards = some []) (hu : A.units + (PyData.depthKv kvs + 2) < cLine)
    (hQ : ∀ h' u tk, (∀ b o, s.heap.get? b = some o → h'.get? b = some o) → Q (.str (dictText (PyData.shownKv kvs)) u) { s with heap := h', toks := tk }) : wpAny (model P w) A (call (.builtin "repr") [.ref a]) Q E s := by
  obtain ⟨as, r1, k1⟩ := kk
  obtain ⟨bs, r2, k2⟩ := kv
  have rr : Reads s.heap (.ref a) (.dict kvs) (a :: as ++ bs) := .dict h1 h2 h3 r1 r2
  obtain ⟨hs1, hs2⟩ := PyData.showableKv_split kvs hs
  obtain ⟨c1, m1, z1⟩ := k1 hs1 fun t ht => by
    obtain ⟨p, hp, hl⟩ := PyData.shownKv_key_le kvs t ht
    exact Nat.le_trans hl (Nat.le_trans (dictText_mem_le hp) hz)
  obtain ⟨c2, m2, z2⟩ := k2 hs2 fun t ht => by
    obtain ⟨p, hp, hl⟩ := PyData.shownKv_val_le kvs t ht
    exact Nat.le_trans hl (Nat.le_trans (dictText_mem_le hp) hz)
  have hb : ReadAtMost s.heap (PyData.depthKv kvs) (c1 ++ c2) := (m1.mono (PyData.depthAll_keys_le kvs)).append (m2.mono (PyData.depthAll_vals_le kvs))
  have na : a ∉ c1 ++ c2 := not_mem_of_deeper rr (by simp only [PyData.depth]; omega) hb
  refine call_repr_slot (by omega) ⟨o, h1, h2⟩ F.slot_dict_repr ?_
  have hE := ReprEntriesK.of_two es.toList _ _ (z1.more_le (fun b y => List.mem_append_left c2 y) (PyData.depthAll_keys_le kvs)) (z2.more_le (fun b y => List.mem_append_right c1 y) (PyData.depthAll_vals_le kvs))
  rw [← PyData.shownKv_eq] at hE
  exact call_dict_reprK (A := A.in1) h1 h2 h3 ns na hE hg (fun b _ => Clear.nil b) (by show A.units + 1 + _ < cLine; omega) (fun _ _ e => e) (fun h' u tk q => ⟨_, _, rfl, hQ h' u tk q⟩) hz
end
/-- what repr takes -/
def shwB (x : PyData) : Bool := x.showable && decide (x.depth ≤ 60) && decide (x.shown.length ≤ 1000000)
def reprF : List D → T D
  | [d] => (match d.pr with
    | some x => grd (shwB x = true) (.ret (.str x.shown))
    | none => .fail)
  | _ => .fail
section
variable {X : Cx} {G : GC} {W : WX} {b b1 : Bool} {e : Expr} {m : Env → T D} {p pos : Pos}
def rRepr (G : GC) : List V → Hp → VK → Prop := fun xs H Q => ∃ C v d x, xs = [v] ∧ Rep G C H v d ∧ d.pr = some x ∧ shwB x = true ∧ Q (.str x.shown) H
theorem call_repr (hk : X.K = G.K) (hg : X.A.guards = some []) (hu : X.A.units + 64 < cLine) : CallR X (.builtin "repr") (rRepr G) := by
  intro pins s σ H xs us Q I r h
  obtain ⟨C, v, d, x, rfl, rp, e, hx, q⟩ := h
  obtain ⟨u, rfl, ru⟩ := vals1 r
  unfold shwB at hx
  rw [Bool.and_eq_true, Bool.and_eq_true, decide_eq_true_eq, decide_eq_true_eq] at hx
  obtain ⟨⟨hs, hd⟩, hl⟩ := hx
  have hz : x.shown.length ≤ sizeLine := by rw [sizeLine_eq]; omega
  have fin : ∀ h' u' tk, (∀ b o, s.heap.get? b = some o → h'.get? b = some o) → EP X pins σ Q (.str x.shown u') { s with heap := h', toks := tk } := fun h' u' tk k => ⟨.str x.shown, H, I.kept k, ⟨_, rfl⟩, q⟩
  have fin0 : EP X pins σ Q (.str x.shown s.toks) { s with toks := s.toks + 1 } := fin s.heap _ _ fun _ _ e => e
  cases rp <;> try (cases e; done)
  case non => cases e; cases (show u = Value.none from ru); exact PySem.P.repr_of_none fin0
  case bl k => cases e; cases (show u = Value.bool k from ru); exact PySem.P.repr_of_bool fin0
  case int i => cases e; obtain ⟨t, rfl⟩ := (show ∃ t, u = Value.int i t from ru); exact PySem.P.repr_of_int (by simpa [PyData.showable] using hs) fin0
  case str y => cases e; obtain ⟨t, rfl⟩ := (show ∃ t, u = Value.str y t from ru); exact PySem.P.repr_of_str fin0 hz
  case tup a vs ds h l =>
    obtain ⟨xs, e1, rfl⟩ := pr_map (show (D.prL ds).map PyData.tuple = some x from e)
    cases (show u = Value.ref a from ru)
    obtain ⟨_, its, rv, o, h1, h2, n, h3⟩ := (show ObjOk X.prog X.w H s.heap a _ from I.hok a _ h)
    simp only [PyData.depth] at hd
    exact top_tuple h1 h2 h3 (RepL.shows hk I l rv e1) (by simpa [PyData.showable] using hs) (by simpa only [PyData.shown] using hz) hg (by omega) (by simpa only [PyData.shown] using fin)
  case wt a vs ds h l =>
    obtain ⟨xs, e1, rfl⟩ := pr_map (show (D.prL ds).map PyData.tuple = some x from e)
    cases (show u = Value.ref a from ru)
    simp only [PyData.depth] at hd
    rcases h with (h | ⟨o, h⟩) | ⟨o, its, n, h1, h2, h3, _, rv⟩
    · cases h
    · cases h
    · exact top_tuple (I.kIn a o (by rw [hk]; exact h1)) h2 h3 (RepL.shows hk I l rv e1) (by simpa [PyData.showable] using hs) (by simpa only [PyData.shown] using hz) hg (by omega) (by simpa only [PyData.shown] using fin)
  case lst a vs ds f h l =>
    obtain ⟨xs, e1, rfl⟩ := pr_map (show (D.prL ds).map PyData.list = some x from e)
    cases (show u = Value.ref a from ru)
    simp only [PyData.depth] at hd
    obtain ⟨_, its, n, rv, h1⟩ := (show ObjOk X.prog X.w H s.heap a _ from I.hok a _ h)
    exact top_list h1 rfl rfl (RepL.shows hk I l rv e1) (by simpa [PyData.showable] using hs) (by simpa only [PyData.shown] using hz) hg (by omega) (by simpa only [PyData.shown] using fin)
  case dK a vs ds f h l =>
    obtain ⟨xs, e1, rfl⟩ := pr_map (show (D.prK ds).map PyData.dict = some x from e)
    cases (show u = Value.ref a from ru)
    simp only [PyData.depth] at hd
    obtain ⟨_, na, vs', rv, o, es, ep, h1, h2, h3, _, hp, _⟩ := (show ObjOk X.prog X.w H s.heap a _ from I.hok a _ h)
    obtain ⟨q0, q1⟩ := RepK.shows hk I l rv hp e1
    exact top_dict h1 h2.1 h3 na q0 q1 (by simpa [PyData.showable] using hs) (by simpa only [PyData.shown] using hz) hg (by omega) (by simpa only [PyData.shown] using fin)
  case dT a vs ds f h l =>
    obtain ⟨xs, e1, rfl⟩ := pr_map (show (D.prT ds).map PyData.dict = some x from e)
    cases (show u = Value.ref a from ru)
    simp only [PyData.depth] at hd
    obtain ⟨_, na, ys, rv, o, es, ep, h1, h2, h3, h4, _⟩ := (show ObjOk X.prog X.w H s.heap a _ from I.hok a _ h)
    obtain ⟨q0, q1⟩ := RepT.shows hk I l rv e1
    exact top_dict h1 h2.1 h3 na (by rw [h4]; exact q0) (by rw [h4]; exact q1) (by simpa [PyData.showable] using hs) (by simpa only [PyData.shown] using hz) hg (by omega) (by simpa only [PyData.shown] using fin)
  case dN a o vs ds f h z l =>
    obtain ⟨xs, e1, rfl⟩ := pr_map (show (D.prN ds).map PyData.dict = some x from e)
    cases (show u = Value.ref a from ru)
    simp only [PyData.depth] at hd
    obtain ⟨es, ep, hd2, ys, e4, rp⟩ := z.da
    obtain ⟨q0, q1⟩ := RepN.shows hk I l rp e1
    exact top_dict (dnx_at I.hok h) z.ed.1 hd2 z.sm (by rw [e4]; exact q0) (by rw [e4]; exact q1) (by simpa [PyData.showable] using hs) (by simpa only [PyData.shown] using hz) hg (by omega) (by simpa only [PyData.shown] using fin)
theorem s_repr (hk : X.K = G.K) (hgd : X.A.guards = some []) (hu : X.A.units + 64 < cLine) (hg : Gl X "repr") (hm : X.mg "repr" = none) (ha : PE X e (tQ G W b1 m)) (hs : starEach [e] X.env = (false, eval e X.env) :: starEach [] X.env := by rfl) (hpl : (backTo pos (starEach [] X.env)).any (·.1) = false := by rfl) :
    PE X (.Call (.Name "repr" p) [e] [] pos) (tQ G W false (qN reprF (aCons m aNil))) := by
  refine s_callB (call_repr hk hgd hu) (fun σ env us C n H vs ds Q r h => ?_) hg hm (by decide +kernel) (a_cons ha a_nil hs) (by decide) (by decide) hs hpl
  cases r with
  | nil => exact h.no.elim
  | @cons v vs d ds r1 l =>
    cases l with
    | cons _ _ => exact h.no.elim
    | nil =>
      replace h : At G W (rV G false) σ env us C n H (match d.pr with | some x => grd (shwB x = true) (.ret (D.str x.shown)) | none => .fail) Q := h
      cases q : d.pr with
      | none => rw [q] at h; exact h.no.elim
      | some x =>
        rw [q] at h
        obtain ⟨hx, h⟩ := h.grd
        exact ⟨_, v, d, x, rfl, r1, q, hx, h.ret (.str _)⟩
end
end Pu
set_option Elab.async false
set_option linter.all false
set_option maxRecDepth 100000
set_option maxHeartbeats 4000000
namespace Pu
open PySem L2 Stp NdefX LamX
open PyProof.Rows hiding St
structure FnG (P : Program) (w : World) (K : PySem.W.Frag) (mg : Str → Option Value) (base : Heap) (k : Nat) (f : Addr) (fd : FuncData) (ps : List Str) (sp : Sp) : Prop where
  len : ∀ vs H Q E, sp vs H Q E → vs.length = ps.length
  run : ∀ (A : Around) (outer : List PySem.Env) (s : Shared) (H : Hp) (args : Args) (us : List Value) (vs : List V) (Q : VK) (E : XK), Room k A → A.guards = some [] → Env0 P w K mg base A outer s H → BindsTo s fd args (ps.zip us) → Vals vs us → sp vs H Q E →
    codeAny (model P w) A (.call (.ref f) args) (CR (L2.CX P w) outer P w H s Q E) s
section
variable {P : Program} {w : World} {K : PySem.W.Frag} {mg : Str → Option Value} {base : Heap} {G : GC} {k j : Nat} {f : Addr} {fd : FuncData} {ps : List Str} {sp : Sp}
theorem FnG.of (F : FnOk P w K mg base (L2.CX P w) k f fd ps sp) : FnG P w K mg base k f fd ps sp := ⟨F.len, fun A outer s H args us vs Q E hr _ => F.run A outer s H args us vs Q E hr⟩
theorem FnG.mono (F : FnG P w K mg base j f fd ps sp) (h : j ≤ k) : FnG P w K mg base k f fd ps sp := ⟨F.len, fun A outer s H args us vs Q E hr => F.run A outer s H args us vs Q E (hr.mono h)⟩
theorem fnG_of {x qual : Str} {st : Stmt} {N : List Str} (F : Fun K x qual st f fd) (S : FnScope N ps (defScope st)) (len : ∀ vs H Q E, sp vs H Q E → vs.length = ps.length)
    (hb : ∀ (cdv : Value) (A : Around) (outer : List PySem.Env) (s : Shared) (H : Hp) (vs : List V) (Q : VK) (E : XK), Room k (A.deeper (envOfC qual (defScope st) s.heap.objs.size f cdv)) → (A.deeper (envOfC qual (defScope st) s.heap.objs.size f cdv)).guards = some [] → sp vs H Q E →
      ∃ t, PSs (cxOf (L2.CX P w) P w K mg base N qual (defScope st) f cdv A outer s H E) (defBody st) t ∧ t { nx := fun _ H' => Q .non H', rt := Q } (L2.start N vs) H) : FnG P w K mg base (k + 1) f fd ps sp := by
  obtain ⟨oc, od, kV, doc, pm, an, cdv, ct, osl, rfl, lk, hcd⟩ := F.ex
  exact ⟨len, fun A outer s H args us vs Q E hr hg e0 b r h => run_ofS lk hcd S hr e0 b r (len _ _ _ _ h) fun hr' => hb cdv A outer s H vs Q E hr' hg h⟩
end
section
variable {X : Cx} {G : GC} {W : WX} {k : Nat} {f : Addr} {fd : FuncData} {ps : List Str} {x : Str} {p pos : Pos} {e : Expr} {es : List Expr} {ma : Env → T (List D)} {mf : List D → T D}
end
/-- the promise of a law's def: the script, the tables of the lambdas; what it runs as behind the pen is m -/
def spLaw (G : GC) : Sp := fun vs H Q _ => ∃ (a : Addr) (ns : List Int), vs = [.ref a] ∧ SqL G.K H a (ns.map V.int) ∧ TabsN G.T H ∧ ∀ H', Q (.bl true) H'
def lawE (nN i : Nat) : Env := (List.replicate nN none).set i (some (.fz .pen))
/-- behind the pen -/
def lawOk (nN i : Nat) (m : Env → T Fl) : Prop := (m (lawE nN i)).wp 0 (fun r _ => match r with | .rt (.bl true) => True | _ => False) (fun _ _ => False)
section
variable {P : Program} {w : World} {K : PySem.W.Frag} {mg : Str → Option Value} {base : Heap} {G : GC} {k : Nat} {f fP : Addr} {fd fdP : FuncData} {N : List Str} {m : Env → T Fl}
theorem law_ok {st s0 : Stmt} {rest : List Stmt} {e : Expr} {px pos : Pos} (hk : K = G.K) (F : Fun K "law" "law" st f fd) (S : FnScope N ["_law_script"] (defScope st)) (hst : defBody st = s0 :: rest)
    (hN1 : N[1]? = some ("_law_pen_here" : Str))
    (h0 : ∀ (cdv : Value) (A : Around) (outer : List PySem.Env) (s : Shared) (H : Hp) (E : XK), Room k (A.deeper (envOfC "law" (defScope st) s.heap.objs.size f cdv)) →
      PS (cxOf (L2.CX P w) P w K mg base N "law" (defScope st) f cdv A outer s H E) s0 (tAsg (fun σ H Q => ∃ v, σ[0]? = some (some v) ∧ spPen K [v] H Q E0) (gName 1)))
    (hb : ∀ (cdv : Value) (A : Around) (outer : List PySem.Env) (s : Shared) (H : Hp) (E : XK), Room k (A.deeper (envOfC "law" (defScope st) s.heap.objs.size f cdv)) → (A.deeper (envOfC "law" (defScope st) s.heap.objs.size f cdv)).guards = some [] →
      PSs (cxOf (L2.CX P w) P w K mg base N "law" (defScope st) f cdv A outer s H E) rest (tS G (fun cls d _ H => E cls d H) m))
    (hw : lawOk N.length 1 m) : FnG P w K mg base (k + 1) f fd ["_law_script"] (spLaw G) := by
  refine fnG_of F S (fun vs H Q E h => ?_) fun cdv A outer s H vs Q E hr hg h => ?_
  · obtain ⟨a, ns, rfl, _⟩ := h
    rfl
  · obtain ⟨a, ns, rfl, hS, hT, q⟩ := h
    rw [hst]
    refine ⟨_, pss_cons (h0 cdv A outer s H E hr) (hb cdv A outer s H E hr hg), ?_⟩
    refine ⟨.ref a, rfl, a, ns, rfl, by rw [hk]; exact hS, fun H' p c sm hp hc pen => ?_⟩
    have hl : 1 < N.length := (List.getElem?_eq_some_iff.mp hN1).1
    refine ⟨⟨fun _ => False, some (p, c), none⟩, 0, lawE N.length 1, [], ⟨⟨fun p' c' e => ?_, fun a h => h.elim, hT.ext sm⟩, ?_, List.nodup_nil, fun a m => absurd m (by simp)⟩, ?_⟩
    · cases e
      exact pen
    · have er : EnvR G ⟨fun _ => False, some (p, c), none⟩ H' (L2.start N [.ref a]) (List.replicate N.length none) [] := EnvR.nones _ _ (by
        unfold L2.start
        rw [List.length_append, List.length_map, List.length_replicate]
        show 1 + (N.length - 1) = N.length
        omega)
      obtain ⟨us', e1, e2⟩ := er.put (d := .pen) (v := .ref p) (.pen rfl) 1
      have : us' = [] := List.eq_nil_of_subset_nil e2.subset
      rw [this] at e1
      exact e1
    · refine T.wp_mono hw (fun r n' _ z C' H2 us' st hu => ?_) (fun _ _ _ z => z)
      cases r with
      | rt d =>
        intro v wf rv
        cases d <;> try exact False.elim z
        case bl b =>
          cases b with
          | false => exact False.elim z
          | true =>
            cases rv
            exact q _
      | nx _ => exact False.elim z
      | ro _ => exact False.elim z
      | bk _ => exact False.elim z
      | ct _ => exact False.elim z
      | ex _ _ => exact False.elim z
end
end Pu
set_option Elab.async false
set_option linter.all false
set_option maxRecDepth 100000
set_option maxHeartbeats 4000000
namespace Pu
open PySem L2 Stp NdefX LamX
open PyProof.Rows hiding St
/-- what is tracked at a law's call: the tables, and the script where it is not written -/
def H0 (K : PySem.W.Frag) (ts : List Addr) (a : Addr) (sc : Obj) (ns : List Int) : Hp := fun b => if b ∈ ts then some (.tbl #[]) else if b = a ∧ (K.lookup a).isNone = true then some (.frz sc (.lst (ns.map V.int))) else none
section
variable {P : Program} {w : World} {K : PySem.W.Frag} {mg mb : Str → Option Value} {k : Nat} {fa a : Addr} {cs : List (Addr × Addr)} {fd : FuncData} {x : Str} {sp : Sp} {s₁ : Shared} {vs : List Value} {ns : List Int}
theorem law_callG (KX : K.In s₁.heap) (hns : s₁.heap.Ns mainGlobals mg) (hb : s₁.heap.Ns builtinsNs mb) (hbb : ∀ x : Str, x ≠ "__name__" → mb x = bootBuiltins x) (lim : s₁.heap.NoLimit) (hg : s₁.gens = #[])
    (hT : ∀ p ∈ cs, s₁.heap.get? p.2 = some { cls := .none, data := .fields #[] }) (nT : ∀ p ∈ cs, K.lookup p.2 = none) (CH : ∀ p ∈ cs, PySem.W.CodeHd s₁.heap p.1 p.2)
    (bmn : ∃ (bm : Addr) (ob : Obj), mg "__builtins__" = some (.ref bm) ∧ bm ≠ builtinsNs ∧ s₁.heap.get? bm = some ob ∧ ob.cls = .type "module" ∧ ob.dict = some builtinsNs ∧ ob.data = .plain)
    (ha : s₁.heap.get? a = some { cls := .type "list", data := .seq vs.toArray }) (hi : IntsAre vs ns) (hl : ns.length ≤ sizeLine) (hr : Room k callerA)
    (F : ∀ base : Heap, K.In base → base.Ns mainGlobals mg → (∀ p ∈ cs, TabB base mg p.1 p.2) → FnG P w K mg base k fa fd [x] sp) (hbind : ∀ (s : Shared) (u : Value), BindsTo s fd ⟨[u], []⟩ [(x, u)])
    (hsp : ∀ H : Hp, (∀ p ∈ cs, H p.2 = some (.tbl #[])) → SqL K H a (ns.map V.int) → sp [.ref a] H (fun v _ => v = .bl true) fun _ _ _ => False) :
    codeAny (model P w) callerA (.call (.ref fa) ⟨[.ref a], []⟩) (fun r s' => r = .ok (.ret (.bool true)) ∧ OldK s₁.heap s'.heap ∧ s'.os = s₁.os ∧ AllBare s'.gens) s₁ := by
  have rv := vals_ints hi
  have lv := hi.length
  generalize ets : cs.map (·.2) = ts
  have tsM : ∀ p ∈ cs, p.2 ∈ ts := fun p hp => by rw [← ets]; exact List.mem_map.mpr ⟨p, hp, rfl⟩
  have tsT : ∀ b ∈ ts, ∃ p ∈ cs, p.2 = b := fun b m => by rw [← ets] at m; exact List.mem_map.mp m
  have tabAt : ∀ b ∈ ts, s₁.heap.get? b = some { cls := .none, data := .fields #[] } := fun b m => by
    obtain ⟨p, hp, rfl⟩ := tsT b m
    exact hT p hp
  have aN : a ∉ ts := fun m => by
    have q := tabAt a m
    rw [ha] at q
    cases congrArg Obj.data (Option.some.inj q)
  generalize eH : H0 K ts a { cls := .type "list", data := .seq vs.toArray } ns = H
  have Hcase : ∀ b, (b ∈ ts ∧ H b = some (.tbl #[])) ∨ (b = a ∧ K.lookup a = none ∧ H b = some (.frz { cls := .type "list", data := .seq vs.toArray } (.lst (ns.map V.int)))) ∨ H b = none := fun b => by
    rw [← eH]
    unfold H0
    by_cases m : b ∈ ts
    · exact .inl ⟨m, if_pos m⟩
    · rw [if_neg m]
      by_cases q : b = a ∧ (K.lookup a).isNone = true
      · exact .inr (.inl ⟨q.1, Option.isNone_iff_eq_none.mp q.2, if_pos q⟩)
      · exact .inr (.inr (if_neg q))
  have Htab : ∀ p ∈ cs, H p.2 = some (.tbl #[]) := fun p hp => by
    rw [← eH]
    exact if_pos (tsM p hp)
  have plainAt : ∀ {b : Addr} {o : Obj}, s₁.heap.get? b = some o → (∀ q n, o.data ≠ .seq q n) → o.data ≠ .fields #[] → H b = none := fun {b o} e d1 d2 => by
    rcases Hcase b with ⟨m, _⟩ | ⟨rfl, _, _⟩ | q
    · rw [tabAt b m] at e
      cases e
      exact absurd rfl d2
    · rw [ha] at e
      cases e
      exact absurd rfl (d1 _ _)
    · exact q
  have inB : ∀ {b : Addr} {o : Obj}, s₁.heap.get? b = some o → H b = none → (hidT s₁.heap H).get? b = some o := fun e n => hidT_get e n
  have nsB : ∀ {b : Addr} {m : Str → Option Value}, s₁.heap.Ns b m → (hidT s₁.heap H).Ns b m := fun {b m} ⟨o, es, ep, e, d, r⟩ => ⟨o, es, ep, inB e (plainAt e (fun q n z => by rw [d] at z; cases z) fun z => by rw [d] at z; cases z), d, r⟩
  have KB : K.In (hidT s₁.heap H) := fun b o e => inB (KX b o e) (by
    rcases Hcase b with ⟨m, _⟩ | ⟨rfl, q, _⟩ | q
    · obtain ⟨p, hp, rfl⟩ := tsT b m
      rw [nT p hp] at e
      cases e
    · rw [q] at e
      cases e
    · exact q)
  have hok : HOk P w H s₁.heap := fun b o e => by
    rcases Hcase b with ⟨m, q⟩ | ⟨rfl, _, q⟩ | q
    · rw [q] at e
      cases e
      exact tabAt b m
    · rw [q] at e
      cases e
      exact ⟨ha, by rw [List.length_map]; exact hl, vs, _, rv, ha⟩
    · rw [q] at e
      cases e
  have hS : SqL K H a (ns.map V.int) := by
    cases q : K.lookup a with
    | some o =>
      have e := KX a o q
      rw [ha] at e
      cases e
      exact .inr ⟨_, vs.toArray, _, q, rfl, rfl, rfl, by rw [List.size_toArray, lv]; exact hl, by simpa using rv⟩
    | none =>
      refine .inl (.inr ⟨{ cls := .type "list", data := .seq vs.toArray }, ?_⟩)
      rw [← eH]
      exact (if_neg aN).trans (if_pos ⟨rfl, by rw [q]; rfl⟩)
  have mod : L2.Mod K mg (hidT s₁.heap H) := ⟨KB, nsB hns, ⟨mb, nsB hb, hbb⟩, by
    obtain ⟨mc, h1, h2⟩ := lim
    exact ⟨mc, nsB h1, h2⟩⟩
  have TB : ∀ p ∈ cs, TabB (hidT s₁.heap H) mg p.1 p.2 := fun p hp => by
    refine ⟨?_, ?_, fun z => ?_⟩
    · obtain ⟨o, us, file, tf, flags, tg, inF, text, tt, e1, r1, r2, r3, rest⟩ := CH p hp
      refine ⟨o, us, file, tf, flags, tg, inF, text, tt, inB e1 (plainAt e1 (fun q n z => by rw [r2] at z; cases z) fun z => ?_), r1, r2, r3, rest⟩
      rw [r2] at z
      cases z
      simp at r3
    · obtain ⟨bm, ob, b1, b2, b3, b4, b5, b6⟩ := bmn
      refine ⟨bm, ob, b1, b2, fun q => ?_, fun q => ?_, inB b3 (plainAt b3 (fun q n z => by rw [b6] at z; cases z) fun z => by rw [b6] at z; cases z), b4, b5, b6⟩
      · obtain ⟨o, es, ep, e, d, _⟩ := hns
        rw [q, e] at b3
        cases b3
        rw [d] at b6
        cases b6
      · rw [q, hT p hp] at b3
        cases b3
        cases b6
    · obtain ⟨o, es, ep, e, d, _⟩ := hns
      rw [z, hT p hp] at e
      cases e
      cases d
  have e0 : Env0 P w K mg (hidT s₁.heap H) callerA [] s₁ H := ⟨rfl, mod, fun b o e => of_hidT e, Nat.le_of_eq (hidT_size _ _), trivial, fun b m => absurd (show b ∈ ([] : List Addr) from m) (by simp), hok, .of_eq hg⟩
  refine codeAny_mono ((F _ KB (nsB hns) TB).run callerA [] s₁ H ⟨[.ref a], []⟩ [.ref a] [.ref a] _ _ hr rfl e0 (hbind s₁ (.ref a)) (.cons rfl .nil) (hsp H Htab hS)) fun r s' h => ?_
  cases r with
  | error e =>
    obtain ⟨_, _, _, _, _, _, _, _, _, _, _, _, z⟩ := h
    exact False.elim z
  | ok fl =>
    cases fl with
    | next => exact False.elim h
    | brk => exact False.elim h
    | cont => exact False.elim h
    | ret u =>
      obtain ⟨v, H', os, bare, un, hok', r', q⟩ := h
      have q : v = .bl true := q
      subst q
      obtain rfl : u = Value.bool true := r'
      have stay : ∀ b o, b ∉ ts → s₁.heap.get? b = some o → s'.heap.get? b = some o := fun b o nb e => by
        rcases Hcase b with ⟨m, _⟩ | ⟨_, _, z⟩ | z
        · exact absurd m nb
        · have z2 := un.frzs b _ _ z
          obtain ⟨e1, _⟩ := hok b _ z
          obtain ⟨e2, _⟩ := hok' b _ z2
          rw [e] at e1
          cases e1
          exact e2
        · exact un.keep b o e z (fun y => absurd (show b ∈ ([] : List Addr) from y) (by simp)) (by simp)
      have tabs : ∀ p ∈ cs, ∃ more : Array Value, s'.heap.get? p.2 = some { cls := .none, data := .fields more } := fun p hp => by
        obtain ⟨more, z⟩ := un.tbls p.2 #[] (Htab p hp)
        exact ⟨_, hok' p.2 _ z⟩
      refine ⟨rfl, ⟨fun b o e => ?_, fun b o e => ?_⟩, os, bare⟩
      · by_cases m : b ∈ ts
        · obtain ⟨p, hp, rfl⟩ := tsT b m
          obtain ⟨more, hm⟩ := tabs p hp
          rw [hT p hp] at e
          cases e
          exact .inr (.inl ⟨((CH p hp).tab (hT p hp)).isCodeTable, rfl, #[], more, rfl, by rw [Array.empty_append]; exact hm⟩)
        · exact .inl (stay b o m e)
      · by_cases m : b ∈ ts
        · obtain ⟨p, hp, rfl⟩ := tsT b m
          obtain ⟨more, hm⟩ := tabs p hp
          exact ⟨_, hm⟩
        · exact ⟨o, stay b o m e⟩
end
/-- what is shown of a law at the heap behind the top -/
def LawG (l : PySem.W.OpenLaw) (w : World) (k : Nat) (mg : Str → Option Value) (fa : Addr) (h : Heap) : Prop :=
  ∃ (G : GC) (fd : FuncData) (cs : List (Addr × Addr)), G.K.In h ∧ (∀ p ∈ cs, h.get? p.2 = some { cls := .none, data := .fields #[] }) ∧ (∀ p ∈ cs, G.K.lookup p.2 = none) ∧ (∀ p ∈ cs, PySem.W.CodeHd h p.1 p.2) ∧ (∀ (s : Shared) (u : Value), BindsTo s fd ⟨[u], []⟩ [("_law_script", u)]) ∧ (∀ p ∈ G.T, p.1 ∈ cs.map (·.2)) ∧
    ∀ base : Heap, G.K.In base → base.Ns mainGlobals mg → (∀ p ∈ cs, TabB base mg p.1 p.2) → FnG l.prog w G.K mg base k fa fd ["_law_script"] (spLaw G)
theorem walkG {l : PySem.W.OpenLaw} {k : Nat} {q : Program} {loose : List Str} {XP : (Str → Option Value) → Heap → Prop} {YP : World → Heap → Prop} {d : DefRec} (hn : l.most = some 63) (hdf : d.params.defaults = []) (hr : Room k callerA)
    (F : ∀ (w : World) (mg : Str → Option Value) (fa : Addr) (h : Heap), YP w h → h.Ns mainGlobals mg → mg d.name = some (.ref fa) → LawG l w k mg fa h) :
    PySem.W.WalkO q loose XP YP l.row.toRowW d [] (fun f vs => PySem.call f vs) := by
  refine Att.attach_callB hn hdf fun w s₀ s₁ mg mb fa o pm cd doc a vs ns G0 Y ho hd hcd hmg hobj hints hlen hbits hg => ?_
  obtain ⟨G, fd, cs, KX, h1, h2, h3, h4, h5, h6⟩ := F w mg fa _ Y G0.T.g hmg
  refine law_callG KX G0.T.g G0.T.b G0.T.builtins G0.T.nolimit hg h1 h2 h3 G0.T.bmain hobj hints (Nat.le_trans hlen (by rw [sizeLine_eq]; decide)) hr h6 h4 fun H hH hS => ⟨a, ns, rfl, hS, fun p hp => ?_, fun _ => rfl⟩
  obtain ⟨r, hr, e⟩ := List.mem_map.mp (h5 p hp)
  exact TabN.nil (by rw [← e]; exact hH r hr)
end Pu
set_option Elab.async false
set_option linter.all false
set_option maxRecDepth 100000
set_option maxHeartbeats 4000000
namespace Pu
open PySem L2 Stp NdefX LamX
open PyProof.Rows hiding St
def itmD : D → T (List D)
  | .lst xs => .ret xs
  | .tup xs => .ret xs
  | .wt xs => .ret xs
  | _ => .fail
def aStar (m : Env → T D) (k : Env → T (List D)) : Env → T (List D) := fun env => (m env).bind fun d => (itmD d).bind fun xs => (k env).bind fun ys => .ret (xs ++ ys)
section
variable {X : Cx} {G : GC} {W : WX} {b : Bool} {e : Expr} {es : List Expr} {m : Env → T D} {k : Env → T (List D)} {p : Pos}
end
def itO : O → D → T D
  | .ls xs, .int i => ofO (atI xs i)
  | .dk kvs, k => (match keyD k with
    | some k => ofO (valD kvs k)
    | none => .fail)
  | .dt kvs, .tup ks => (match keysD ks with
    | some k => ofO (valD kvs k)
    | none => .fail)
  | _, _ => .fail
def qIxO (i : Nat) (mb : Env → T D) : Env → T D := fun env => match env[i]? with
  | some (some o) => (mb env).bind (itO o)
  | _ => .fail
section
variable {X : Cx} {G : GC} {W : WX} {i : Nat} {a c : Expr} {mb : Env → T D} {pos : Pos}
end
def idxF (a : PyData) : List PyData → Nat → Option Nat
  | [], _ => none
  | z :: r, i => if PyData.eqv z a = true then some i else idxF a r (i + 1)
def indexD (x y : D) : T D := match x with
  | .lst xs => (match y.pd, D.pdL xs with
    | some a, some bs => grd (SeqAt.shaped a = true ∧ SeqAt.shaped (.list bs) = true) (match idxF a bs 0 with
      | some j => .ret (.int j)
      | none => .fail)
    | _, _ => .fail)
  | _ => .fail
def qIndex (mo me : Env → T D) : Env → T D := fun env => (mo env).bind fun d => match d with
  | .lst xs => (me env).bind fun y => indexD (.lst xs) y
  | _ => .fail
section
variable {X : Cx} {G : GC} {W : WX} {b : Bool} {o e : Expr} {mo me : Env → T D} {ap cp : Pos}
end
end Pu
set_option Elab.async false
set_option linter.all false
set_option maxRecDepth 100000
set_option maxHeartbeats 4000000
namespace Pu
open PySem L2 Stp NdefX LamX
open PyProof.Rows hiding St
section
variable {P : Program} {w : World} {K : PySem.W.Frag} {mg : Str → Option Value} {base : Heap} {N : List Str} {qual : Str} {scope : Scope} {f : Addr} {cd : Value} {A : Around} {outer : List PySem.Env} {s : Shared} {H : Hp} {E : XK}
theorem tk_def : Takes (cxOf (L2.CX P w) P w K mg base N qual scope f cd A outer s H E) (fun cls d _ H' => E cls d H') := takes_of (X := cxOf (L2.CX P w) P w K mg base N qual scope f cd A outer s H E) rfl rfl rfl (E₁ := fun e' s'' => L2.CX P w outer H s E e' s'') rfl
theorem po_def : PassesOwn (model P w) (cxOf (L2.CX P w) P w K mg base N qual scope f cd A outer s H E).A (cxOf (L2.CX P w) P w K mg base N qual scope f cd A outer s H E).env (cxOf (L2.CX P w) P w K mg base N qual scope f cd A outer s H E).xe := passes_of rfl
end
section
variable {X : Cx} {G : GC} {W : WX} {x : Str} {pos : Pos}
theorem s_globI {i : Int} (hg : Gl X x) (hm : ∃ t, X.mg x = some (.int i t)) (hd : (x == ("__debug__" : Str)) = false := by decide) : PE X (.Name x pos) (tQ G W false (qC (.int i))) := by
  obtain ⟨t, hm⟩ := hm
  exact s_glob (v := .int i) hg hm ⟨t, rfl⟩ (fun _ _ => .int i) hd
theorem tk_lam {P : Program} {w : World} {K : PySem.W.Frag} {mg : Str → Option Value} {base : Heap} {N : List Str} {F : NF} {f : Addr} {A : Around} {outer : List PySem.Env} {s : Shared} {H : Hp} {E : XK} : Takes (ncx (L2.CX P w) P w K mg base N F f A outer s H E) (fun cls d _ H' => E cls d H') := takes_of (X := ncx (L2.CX P w) P w K mg base N F f A outer s H E) rfl rfl rfl (E₁ := fun e' s'' => L2.CX P w outer H s E e' s'') rfl
theorem s_globC {c : Nat} {A : Addr} (hg : Gl X x) (hm : X.mg x = some (.ref A)) (hA : G.cA c = some A) (hd : (x == ("__debug__" : Str)) = false := by decide) : PE X (.Name x pos) (tQ G W false (qC (.cls c))) := s_glob hg hm (v := .ref A) rfl (fun _ _ => .cls hA) hd
theorem tk_no : Takes X W0 := fun _ _ x => by
  obtain ⟨_, _, _, _, _, _, _, _, _, _, _, _, _, _, _, _, z⟩ := x
  exact z.elim
end
theorem hU {k : Nat} {A : Around} (hr : Room k A) (n : Nat) (h : n ≤ 200 := by decide) : A.units + n < cLine := by
  have := hr.un
  omega
end Pu
set_option Elab.async false
set_option linter.all false
set_option maxRecDepth 100000
set_option maxHeartbeats 4000000
namespace Pu
open PySem L2 Stp NdefX LamX
open PyProof.Rows hiding St
theorem PD.fun_ {K : Fg} {d : PD} (e : d.obs K = d.val) (c : d.ok K = true) : Fun K d.name d.qual d.st (d.at_ K) (fdAt K (d.at_ K)) := by
  obtain ⟨c1, c2⟩ := Bool.and_eq_true_iff.mp c
  refine ⟨?_, c1⟩
  unfold PD.obs at e
  unfold fdAt at c2 ⊢
  cases q : K.lookup (d.at_ K) with
  | none =>
    rw [q] at e
    cases e
  | some o =>
    obtain ⟨oc, od, dt, sl⟩ := o
    rw [q] at e c2
    cases dt <;> try (cases e; done)
    rename_i fd
    obtain ⟨n1, n2, n3, n4, n5, n6, n7, n8, n9, n10, n11, n12, n13, n14, n15⟩ := fd
    have e2 : fdSig ⟨n1, n2, n3, n4, n5, n6, n7, n8, n9, n10, n11, n12, n13, n14, n15⟩ = d.val := e
    unfold fdSig PD.val at e2
    simp only [Option.some.injEq, Prod.mk.injEq] at e2
    obtain ⟨h1, h2, h3, h4, h5, h6, h7, h8, h9⟩ := e2
    subst h1 h2 h3 h4 h5 h6 h7 h8 h9
    exact ⟨oc, od, n9, n10, n11, n12, n13, n14, sl, rfl, rfl, c2⟩
section
variable {fn : List PD} {tf : List He.Defn} {ex : List (Fg → Bool)} {h : Heap} {K : Fg}
theorem SaysU.df (c : SaysU fn tf ex h K) (i : Nat) {d : PD} (e : fn[i]? = some d := by rfl) : Fun K d.name d.qual d.st (d.at_ K) (fdAt K (d.at_ K)) := by
  have e2 : (fn.map (PD.obs K))[i]? = (fn.map PD.val)[i]? := by rw [c.fs]
  rw [List.getElem?_map, List.getElem?_map, e] at e2
  exact PD.fun_ (Option.some.inj e2) (c.fk d (List.mem_of_getElem? e))
theorem SaysU.at (c : SaysU fn tf ex h K) (i : Nat) {b : Fg → Bool} (e : ex[i]? = some b := by rfl) : b K = true := c.ex b (List.mem_of_getElem? e)
end
open He in
theorem insB_ok {x : Str} {K : Fg} (h : insB x K = true) : InsC K (He.ga K x) := by
  unfold insB at h
  simp only [Bool.and_eq_true, decide_eq_true_eq] at h
  obtain ⟨h1, h2, h3, h4, h5⟩ := h
  exact ⟨He.cls_ok h1, He.eqO_ok h2, He.eqO_ok h3, h4, h5⟩
open He in
theorem isxB_ok {x : Str} {K : Fg} (h : isxB x K = true) : IsxC K (He.ga K x) := by
  unfold isxB at h
  simp only [Bool.and_eq_true, decide_eq_true_eq] at h
  obtain ⟨h0, h1, h2, h3, h4, h5, h6, h7⟩ := h
  exact ⟨h0, He.eqO_ok h1, He.eqO_ok h2, h3, He.eqO_ok h4, He.eqO_ok h5, h6, h7⟩
open He in
theorem propB_ok {x y f : Str} {K : Fg} (h : propB x y f K = true) : PropOf K (He.ga K x) f (mAd y f K) (gAd y f K) := by
  unfold propB at h
  simp only [Bool.and_eq_true, decide_eq_true_eq] at h
  obtain ⟨h1, h2, h3, h4⟩ := h
  refine ⟨He.eqO_ok h1, He.eqO_ok h2, h3, ?_⟩
  split at h4
  · rename_i g r e
    rw [of_decide_eq_true h4] at e
    exact ⟨r, e⟩
  · cases h4
open He in
/-- x has y's method m -/
theorem methB_ok {x y m : Str} {K : Fg} (h : methB x y m K = true) : Meth K (He.ga K x) m (mAd y m K) := by
  unfold methB at h
  simp only [Bool.and_eq_true] at h
  exact ⟨He.eqO_ok h.1, h.2.1, h.2.2⟩
open He in
theorem mkrB_ok {x y : Str} {K : Fg} (h : mkrB x y K = true) : Mk K (He.ga K x) (mAd y "__init__" K) := by
  unfold mkrB at h
  simp only [Bool.and_eq_true] at h
  have m := methB_ok h.2.1
  unfold methB at h
  simp only [Bool.and_eq_true] at h
  exact ⟨h.1, He.eqO_ok h.2.1.1, h.2.1.2.1, h.2.2⟩
open He in
/-- C.m, a def of the class -/
theorem clfB_ok {x m : Str} {K : Fg} (h : clfB x m K = true) : ClX.CRead K (He.ga K x) (.type "type") ∧ PySem.W.findCls K (.ref (He.ga K x)) (.type "type") m = some (.val (.ref (mAd x m K))) ∧ PySem.W.keepIn K (.ref (mAd x m K)) = true := by
  unfold clfB at h
  simp only [Bool.and_eq_true] at h
  obtain ⟨h1, h2, h3, h4⟩ := h
  refine ⟨⟨h1, He.eqO_ok h2⟩, ?_, h3⟩
  split at h4
  · rename_i f e
    rw [of_decide_eq_true h4] at e
    exact e
  · cases h4
theorem raiC_of {x : Str} {K : Fg} (h : (He.Fa.exc x).ok K = true) : RaiC K He.veBase "ValueError.__new__" (He.ga K x) := by
  obtain ⟨h1, h2, h3, h4⟩ := He.exc_ok h
  exact ⟨h1, h2, h3, h4⟩
/-- the isinstance table -/
theorem lookup_mem' {α β : Type} [BEq α] [LawfulBEq α] {a : α} {b : β} : ∀ {l : List (α × β)}, l.lookup a = some b → (a, b) ∈ l
  | [], h => by cases h
  | (x, y) :: r, h => by
    rw [List.lookup_cons] at h
    split at h
    · rename_i q
      rw [eq_of_beq q]
      cases h
      exact List.mem_cons_self ..
    · exact List.mem_cons_of_mem _ (lookup_mem' h)
theorem tbF_of {G : GC} {tb : List (Nat × Str)} {rows : List KRow} (hc : G.cA = cNames tb G.K) (h : ∀ r ∈ rows, kitB tb r G.K = true) : TbF G (tabK rows) := by
  intro a b r e
  have m := h _ (lookup_mem' e)
  unfold kitB at m
  have ek : ∀ k, G.ktV k = ktOf tb G.K k := fun k => by
    cases k with
    | b n => rfl
    | c n =>
      show (G.cA n).map Value.ref = (cNames tb G.K n).map Value.ref
      rw [hc]
  split at m
  · rename_i va vb e1 e2
    exact ⟨va, vb, by rw [ek]; exact e1, by rw [ek]; exact e2, of_decide_eq_true m⟩
  · cases m
theorem tyF_of {G : GC} {tb : List (Nat × Str)} (hc : G.cA = cNames tb G.K) (h : ∀ p ∈ tb, (if p.1 < 100 then insB p.2 G.K else isxB p.2 G.K) = true) : TyF G := by
  have go : ∀ c A, G.cA c = some A → ∃ x, (c, x) ∈ tb ∧ A = He.ga G.K x := fun c A e => by
    rw [hc] at e
    unfold cNames at e
    cases q : tb.lookup c with
    | none => rw [q] at e; cases e
    | some x =>
      rw [q] at e
      cases e
      exact ⟨x, lookup_mem' q, rfl⟩
  refine ⟨fun c A lt e => ?_, fun c A lt e => ?_⟩
  · obtain ⟨x, m, rfl⟩ := go c A e
    have z := h _ m
    rw [if_pos lt] at z
    exact insB_ok z
  · obtain ⟨x, m, rfl⟩ := go c A e
    have z := h _ m
    rw [if_neg lt] at z
    exact isxB_ok z
end Pu
set_option Elab.async false
set_option linter.all false
set_option maxRecDepth 100000
set_option maxHeartbeats 4000000
namespace Pu
open PySem L2 Stp NdefX LamX
open PyProof.Rows hiding St
section
variable {P : Program} {w : World} {K : PySem.W.Frag} {mg : Str → Option Value} {base : Heap} {G : GC} {x qual : Str} {st : Stmt} {f c : Addr} {fd : FuncData} {N ps : List Str} {k : Nat} {m : Env → T Fl}
theorem fn_okC (F : Fun K x qual st f fd) (S : FnScope N ps (defScope st)) (hc : fd.code = .ref c)
    (hb : ∀ (A : Around) (outer : List PySem.Env) (s : Shared) (H : Hp) (E : XK), Room k (A.deeper (envOfC qual (defScope st) s.heap.objs.size f (.ref c))) →
      PSs (cxOf (L2.CX P w) P w K mg base N qual (defScope st) f (.ref c) A outer s H E) (defBody st) (tS G (fun cls d _ H => E cls d H) m)) : FnOk P w K mg base (L2.CX P w) (k + 1) f fd ps (spM G ps.length (runF N.length m)) := by
  obtain ⟨oc, od, kV, doc, pm, an, cdv, ct, osl, rfl, lk, hcd⟩ := F.ex
  have hc : cdv = .ref c := hc
  subst hc
  exact fn_of lk hcd S (fun vs H Q E h => spM_len h) fun A outer s H vs Q E hr h => ⟨_, hb A outer s H E hr, sp_read h⟩
theorem fn_initC (F : Fun K x qual st f fd) (S : FnScope N ps (defScope st)) (hc : fd.code = .ref c)
    (hb : ∀ (A : Around) (outer : List PySem.Env) (s : Shared) (H : Hp) (E : XK), Room k (A.deeper (envOfC qual (defScope st) s.heap.objs.size f (.ref c))) →
      PSs (cxOf (L2.CX P w) P w K mg base N qual (defScope st) f (.ref c) A outer s H E) (defBody st) (tS G (fun cls d _ H => E cls d H) m)) : FnOk P w K mg base (L2.CX P w) (k + 1) f fd ps (spI G ps.length (runI N.length m)) := by
  obtain ⟨oc, od, kV, doc, pm, an, cdv, ct, osl, rfl, lk, hcd⟩ := F.ex
  have hc : cdv = .ref c := hc
  subst hc
  refine fn_of lk hcd S (fun vs H Q E h => ?_) fun A outer s H vs Q E hr h => ⟨_, hb A outer s H E hr, spI_read h⟩
  obtain ⟨_, _, _, _, _, _, _, _, ws, ds, rfl, _, _, _, rl, hl, _⟩ := h
  rw [List.length_cons, rl.length, hl]
end
theorem codeB_ok {p : He.Defn} {K : Fg} (h : codeB p K = true) : (fdAt K (He.fAd K p)).code = .ref (He.codeOf K p) := by
  unfold codeB at h
  split at h
  · rename_i c e
    rw [e, of_decide_eq_true h]
  · cases h
def Cf.all (C : Cf) (H : Hp) : Cf := ⟨fun a => C.F a ∨ (a ∉ C.pa ∧ ∃ o, H a = some o ∧ noTbl o), C.pen, C.me⟩
mutual
def flatTr : D → Bool
  | .tup xs => flatTrL xs
  | .wt xs => flatTrL xs
  | .lst _ => false
  | .dK _ => false
  | .dT _ => false
  | .dN _ => false
  | .obj _ _ => false
  | .fn _ _ => false
  | .bw _ => false
  | .rf _ => false
  | _ => true
def flatTrL : List D → Bool
  | [] => true
  | d :: ds => flatTr d && flatTrL ds
end
section
variable {G : GC} {C C' : Cf} {H H' : Hp} {n n' : Nat}
end
def flatT (d : D) : T D := grd (flatTr d = true) (.ret d)
section
variable {X : Cx} {G : GC} {W : WX} {k : Nat} {f : Addr} {fd : FuncData} {ps : List Str} {x : Str} {p pos : Pos} {e : Expr} {es : List Expr} {m : Env → T D} {ma : Env → T (List D)} {mf : List D → T D}
end
def methD (L : EqL) (m : Str) (np : Nat) (ma : T (List D)) : D → T D
  | .obj c fs => (match L.look c with
    | some mf => if fs.lookup m = none then ma.bind fun ds => grd (ds.length + 1 = np) (mf (.obj c fs :: ds)) else .fail
    | none => .fail)
  | _ => .fail
def qMethU (L : EqL) (m : Str) (np : Nat) (mo : Env → T D) (ma : Env → T (List D)) : Env → T D := fun env => (mo env).bind (methD L m np (ma env))
section
variable {X : Cx} {G : GC} {W : WX} {k : Nat} {ps : List Str} {m : Str} {pos apos : Pos} {e o : Expr} {es : List Expr} {mo : Env → T D} {ma : Env → T (List D)} {L : EqL}
end
end Pu
set_option Elab.async false
set_option linter.all false
set_option maxRecDepth 100000
set_option maxHeartbeats 4000000
namespace Pu
open PySem L2 Stp NdefX LamX
open PyProof.Rows hiding St
section
variable {X : Cx} {G : GC} {W : WX} {b : Bool} {pos : Pos}
end
section
variable {X : Cx} {G : GC} {E : XK} {k c : Nat} {f A : Addr} {fd : FuncData} {ps : List Str} {x : Str} {p pos : Pos} {e : Expr} {es : List Expr} {ma : Env → T (List D)} {mi : Nat → List (Str × D) → List D → T (List (Str × D))}
theorem s_mak (tk : Takes X (fun cls d _ H => E cls d H)) (hA : G.cA c = some A) (M : Mk X.K A f) (F : FnOk X.prog X.w X.K X.mg X.base (L2.CX X.prog X.w) k f fd ps (spI G ps.length mi)) (hr : Room (k + 1) X.A) (hg : Gl X x) (hm : X.mg x = some (.ref A)) (hb : Binds X.K fd ps [])
    (ha : PA X (e :: es) (tA G (fun cls d _ H => E cls d H) false ma)) (hdb : (x == ("__debug__" : Str)) = false := by decide) (he : starEach (e :: es) X.env = (false, eval e X.env) :: starEach es X.env := by rfl) (hpl : (backTo pos (starEach es X.env)).any (·.1) = false := by rfl) :
    PE X (.Call (.Name x p) (e :: es) [] pos) (tQ G (fun cls d _ H => E cls d H) false (qN (fun ds => grd (ds.length + 1 = ps.length) ((mi c [] ds).bind fun fs => .ret (.obj c fs))) ma)) :=
  s_make (fun pins σ H s e s' I c => passAt tk σ pins H s e s' I c) hA M F hr hg hm hb ha hdb he hpl
end
theorem look_of {tb : List (Nat × Str)} {cs : List Nat} {xs : List Str} (h : cs.map (tb.lookup ·) = xs.map some) : ∀ c ∈ cs, ∃ x ∈ xs, tb.lookup c = some x := by
  intro c hc
  have : tb.lookup c ∈ xs.map some := by
    rw [← h]
    exact List.mem_map_of_mem hc
  obtain ⟨x, hx, e⟩ := List.mem_map.mp this
  exact ⟨x, hx, e.symm⟩
theorem cA_of {G : GC} {tb : List (Nat × Str)} {c : Nat} {A : Addr} {x : Str} (hc : G.cA = cNames tb G.K) (h : tb.lookup c = some x) (e : G.cA c = some A) : A = He.ga G.K x := by
  rw [hc] at e
  unfold cNames at e
  rw [h] at e
  cases e
  rfl
theorem prop_of {G : GC} {tb : List (Nat × Str)} {cs : List Nat} {xs : List Str} {y f : Str} (hc : G.cA = cNames tb G.K) (hcs : cs.map (tb.lookup ·) = xs.map some) (h : (xs.all fun x => (He.Fa.cls x).ok G.K && propB x y f G.K) = true) :
    ∀ c ∈ cs, ∀ A, G.cA c = some A → Cls G.K A ∧ ∃ p, PropOf G.K A f p (gAd y f G.K) := by
  intro c m A e
  obtain ⟨x, hx, q⟩ := look_of hcs c m
  rw [cA_of hc q e]
  obtain ⟨a1, a2⟩ := Bool.and_eq_true_iff.mp (List.all_eq_true.mp h x hx)
  exact ⟨He.cls_ok a1, _, propB_ok a2⟩
theorem fld_of {G : GC} {tb : List (Nat × Str)} {cs : List Nat} {xs : List Str} {f : Str} (hc : G.cA = cNames tb G.K) (hcs : cs.map (tb.lookup ·) = xs.map some) (h : (xs.all fun x => (He.Fa.cls x).ok G.K && (He.Fa.noat x f).ok G.K) = true) :
    ∀ c ∈ cs, ∀ A, G.cA c = some A → Cls G.K A ∧ NoAttr G.K A f := by
  intro c m A e
  obtain ⟨x, hx, q⟩ := look_of hcs c m
  rw [cA_of hc q e]
  obtain ⟨a1, a2⟩ := Bool.and_eq_true_iff.mp (List.all_eq_true.mp h x hx)
  exact ⟨He.cls_ok a1, He.noat_ok a2⟩
theorem methC_ok {K : Fg} {x y m : Str} (h : ((He.Fa.cls x).ok K && methB x y m K) = true) : Cls K (He.ga K x) ∧ Meth K (He.ga K x) m (mAd y m K) := by
  obtain ⟨a1, a2⟩ := Bool.and_eq_true_iff.mp h
  exact ⟨He.cls_ok a1, methB_ok a2⟩
theorem tu_nd {T : List NTab} (nd : (T.map (·.1)).Nodup) {q : NTab} (hq : q ∈ T) : ∀ p ∈ T, p.1 = q.1 → p.2 = q.2 := by
  induction T with
  | nil => cases hq
  | cons a l ih =>
    rw [List.map_cons, List.nodup_cons] at nd
    intro p hp e
    rcases List.mem_cons.mp hp with e1 | hp1
    · rcases List.mem_cons.mp hq with e2 | hq1
      · rw [e1, e2]
      · exact absurd (by rw [← e1, e]; exact List.mem_map_of_mem hq1) nd.1
    · rcases List.mem_cons.mp hq with e2 | hq1
      · exact absurd (by rw [← e2, ← e]; exact List.mem_map_of_mem hp1) nd.1
      · exact ih nd.2 hq1 p hp1 e
def isC (c i : Nat) (env : Env) : Bool := match env[i]? with
  | some (some (.fz (.obj c' _))) => c' == c
  | _ => false
section
variable {X : Cx} {G : GC} {W : WX} {x : Str}
end
def hd0 (st : Stmt) : Stmt := match defBody st with
  | a :: _ => a
  | [] => .Pass ⟨0, 0, 0, 0⟩
def tl0 (st : Stmt) : List Stmt := (defBody st).tail
instance : Inhabited Pos := ⟨⟨0, 0, 0, 0⟩⟩
end Pu
set_option Elab.async false
set_option linter.all false
set_option maxRecDepth 100000
set_option maxHeartbeats 4000000
namespace Pu
open PySem L2 Stp
open PyProof.Rows hiding St
mutual
def D.bq : D → D → Bool
  | .non, .non => true
  | .bl a, .bl b => a == b
  | .int a, .int b => decide (a = b)
  | .str a, .str b => decide (a = b)
  | .tup a, .tup b => D.bqL a b
  | .lst a, .lst b => D.bqL a b
  | .wt a, .wt b => D.bqL a b
  | .dK a, .dK b => D.bqK a b
  | .dT a, .dT b => D.bqT a b
  | .obj c a, .obj d b => decide (c = d) && D.bqF a b
  | .exc c a, .exc d b => decide (c = d) && D.bqF a b
  | .fn c a, .fn d b => decide (c = d) && D.bqL a b
  | .ty a, .ty b => decide (a = b)
  | .cls a, .cls b => decide (a = b)
  | .pen, .pen => true
  | .rf a, .rf b => decide (a = b)
  | .scr, .scr => true
  | _, _ => false
def D.bqL : List D → List D → Bool
  | [], [] => true
  | a :: l, b :: r => D.bq a b && D.bqL l r
  | _, _ => false
def D.bqK : List (Key × D) → List (Key × D) → Bool
  | [], [] => true
  | (k, a) :: l, (j, b) :: r => decide (k = j) && (D.bq a b && D.bqK l r)
  | _, _ => false
def D.bqT : List (List Key × D) → List (List Key × D) → Bool
  | [], [] => true
  | (k, a) :: l, (j, b) :: r => decide (k = j) && (D.bq a b && D.bqT l r)
  | _, _ => false
def D.bqF : List (Str × D) → List (Str × D) → Bool
  | [], [] => true
  | (k, a) :: l, (j, b) :: r => decide (k = j) && (D.bq a b && D.bqF l r)
  | _, _ => false
end
theorem band {a b : Bool} (h : (a && b) = true) : a = true ∧ b = true := Bool.and_eq_true_iff.mp h
def bqLL : List (List D) → List (List D) → Bool
  | [], [] => true
  | a :: l, b :: r => D.bqL a b && bqLL l r
  | _, _ => false
def O.bq : O → O → Bool
  | .fz a, .fz b => D.bq a b
  | .me c a, .me d b => decide (c = d) && D.bqF a b
  | .ls a, .ls b => D.bqL a b
  | .dk a, .dk b => D.bqK a b
  | .dt a, .dt b => D.bqT a b
  | .ll a, .ll b => bqLL a b
  | .tl j a b, .tl k c d => decide (j = k) && (D.bqL a c && D.bqL b d)
  | _, _ => false
def Env.bq : Env → Env → Bool
  | [], [] => true
  | none :: l, none :: r => Env.bq l r
  | some a :: l, some b :: r => O.bq a b && Env.bq l r
  | _, _ => false
def Fl.bq : Fl → Fl → Bool
  | .nx a, .nx b => Env.bq a b
  | .bk a, .bk b => Env.bq a b
  | .ct a, .ct b => Env.bq a b
  | .rt a, .rt b => D.bq a b
  | .ex d a, .ex e b => D.bq d e && Env.bq a b
  | .ro a, .ro b => O.bq a b
  | _, _ => false
namespace T
variable {α β : Type}
end T
def insF (x : Fl) (l : List Fl) : List Fl := if l.any (Fl.bq x) then l else x :: l
def uniF : List Fl → List Fl → List Fl
  | [], r => r
  | x :: l, r => insF x (uniF l r)
/-- what is known of a statement's run -/
structure Outs (m : Env → T Fl) (f : Env → Option (Nat × List Fl)) : Prop where
  h : ∀ env k l, f env = some (k, l) → ∀ n, n + k ≤ T.cap → (m env).wp n (fun r n' => r ∈ l ∧ n' ≤ n + k) (fun _ _ => False)
def stp (f : Env → Option (Nat × List Fl)) : Fl → Option (Nat × List Fl)
  | .nx e => f e
  | x => some (0, [x])
def joinL (f : Env → Option (Nat × List Fl)) : List Fl → Option (Nat × List Fl)
  | [] => some (0, [])
  | x :: r => match stp f x with
    | none => none
    | some (a, l) => match joinL f r with
      | none => none
      | some (b, s) => some (max a b, uniF l s)
/-- a loop's turns, over all that may stand at its head: .nx goes on, .bk is through -/
def turn : Fl → Fl
  | .ct e => .nx e
  | .nx e => .nx e
  | .bk e => .bk e
  | r => r
def fin : Fl → Fl
  | .bk e => .nx e
  | r => r
theorem T.bind_assoc {α β γ : Type} {f : α → T β} {g : β → T γ} : ∀ (t : T α), (t.bind f).bind g = t.bind fun a => (f a).bind g
  | .ret a => rfl
  | .ex e => rfl
  | .fail => rfl
  | .draw u k => by
    show T.draw u _ = T.draw u _
    congr 1
    funext d
    exact T.bind_assoc (k d)
end Pu
set_option Elab.async false
set_option linter.all false
set_option maxRecDepth 100000
set_option maxHeartbeats 4000000
namespace Pu
open PySem L2 Stp NdefX LamX
open PyProof.Rows hiding St
section
variable {G : GC}
theorem keepN {C1 C2 : Cf} {H1 H2 : Hp} {v : V} {o : O} {us1 : List Addr} (s : Step [] C1 H1 C2 H2) (r : OwnR G C1 H1 v o us1) (hu : ∀ a ∈ us1, ¬ C1.F a ∧ a ∉ C1.pa ∧ ∃ u, H1 a = some u ∧ noTbl u) :
    OwnR G C2 H2 v o us1 ∧ ∀ a ∈ us1, ¬ C2.F a ∧ a ∉ C2.pa ∧ ∃ u, H2 a = some u ∧ noTbl u := by
  have keep : ∀ a ∈ us1, ∀ u, H1 a = some u → H2 a = some u := fun a m u e => by
    obtain ⟨_, q2, u', e', t⟩ := hu a m
    rw [e] at e'
    cases e'
    exact s.kp a u e t (by simp) q2
  refine ⟨r.nx s.nx s.me keep, fun a m => ?_⟩
  obtain ⟨q1, q2, u, e, t⟩ := hu a m
  refine ⟨fun z => ?_, fun z => ?_, u, keep a m u e, t⟩
  · rcases s.fn a z with z | z | z
    · exact q1 z
    · cases z
    · rw [e] at z; cases z
  · rcases s.pf a z with z | z
    · exact q2 z
    · rw [e] at z; cases z
end
def parO3 (i j l : Nat) (m1 m2 m3 : Env → T O) : Env → T Fl := exS (fun env => (m1 env).bind fun a => (m2 env).bind fun b => (m3 env).bind fun c => .ret (a, b, c)) fun p env => .ret (.nx (((env.set i (some p.1)).set j (some p.2.1)).set l (some p.2.2)))
section
variable {X : Cx} {G : GC} {W : WX} {m1 m2 m3 : Env → T O} {a b c : Expr} {pos : Pos}
theorem st_par3O {i j l : Nat} {x y z : Str} {px py pz pt : Pos} {kt k2 pt2} (hc : X.calm = true) (hN : X.N.Nodup) (hi : X.N[i]? = some x) (hj : X.N[j]? = some y) (hl : X.N[l]? = some z) (hij : i ≠ j) (hil : i ≠ l) (hjl : j ≠ l)
    (hx : X.env.scope.names.lookup x = some .local) (hy : X.env.scope.names.lookup y = some .local) (hz : X.env.scope.names.lookup z = some .local) (h1 : PE X a (tN G W m1)) (h2 : PE X b (tN G W m2)) (h3 : PE X c (tN G W m3))
    (hw : swappedStores [.Tuple [.Name x px, .Name y py, .Name z pz] kt pt] (.Tuple [a, b, c] k2 pt2) X.env = pure (some [x, y, z]))
    (hs : swapsWithSole [.Tuple [.Name x px, .Name y py, .Name z pz] kt pt] (.Tuple [a, b, c] k2 pt2) pos.line X.env = pure false := by rfl)
    (hs1 : starEach [a, b, c] X.env = (false, eval a X.env) :: starEach [b, c] X.env := by rfl) (hs2 : starEach [b, c] X.env = (false, eval b X.env) :: starEach [c] X.env := by rfl) (hs3 : starEach [c] X.env = (false, eval c X.env) :: starEach [] X.env := by rfl) :
    PS X (.Assign [.Tuple [.Name x px, .Name y py, .Name z pz] kt pt] (.Tuple [a, b, c] k2 pt2) pos) (tS G W (parO3 i j l m1 m2 m3)) := by
  refine PS.imp (ps_par3 hc hN hi hj hl hij hil hjl hx hy hz (pa_cons h1 (pa_cons h2 (pa_cons h3 pa_nil hs3) hs2) hs1) hw hs) fun E σ H h => ?_
  obtain ⟨C, n, env, us, h⟩ := h
  refine ⟨C, n, env, us, h.ok, T.wp_mono (T.wp_bind (T.wp_bindX h.wp)) ?_ ?_⟩
  · intro o1 n1 _ z C1 H1 v1 s1 w1 r1
    have k1 := h.ok.q s1 w1
    refine ⟨C1, n1, env, us, k1, T.wp_mono (T.wp_bind z) ?_ ?_⟩
    · intro o2 n2 _ z2 C2 H2 v2 s2 w2 r2
      have k2 := k1.q s2 w2
      refine ⟨C2, n2, env, us, k2, T.wp_mono (T.wp_bind z2) ?_ ?_⟩
      · intro o3 n3 _ z3 C3 H3 v3 s3 w3 r3
        have k3 := k2.q s3 w3
        obtain ⟨us1, ro1, nd1, hu1⟩ := r1
        obtain ⟨us2, ro2, nd2, hu2⟩ := r2
        obtain ⟨us3, ro3, nd3, hu3⟩ := r3
        obtain ⟨p1, q1⟩ := keepN s2 ro1 fun a m => ⟨(hu1 a m).1, (hu1 a m).2.1, (hu1 a m).2.2.2⟩
        obtain ⟨p1, q1'⟩ := keepN s3 p1 q1
        obtain ⟨p2, q2⟩ := keepN s3 ro2 fun a m => ⟨(hu2 a m).1, (hu2 a m).2.1, (hu2 a m).2.2.2⟩
        have no1 : ∀ a ∈ us1, a ∉ us := fun a m z => by
          obtain ⟨_, _, u, e, _⟩ := h.ok.us a z
          rw [(hu1 a m).2.2.1] at e
          cases e
        obtain ⟨ua, ka, ha⟩ := k3.putO p1 nd1 (fun a m => ⟨(q1' a m).1, (q1' a m).2.1, no1 a m, (q1' a m).2.2⟩) i
        have no2 : ∀ a ∈ us2, a ∉ ua := fun a m z => by
          have e0 := (hu2 a m).2.2.1
          rcases ha a z with y | y
          · obtain ⟨_, _, _, u, e, _⟩ := hu1 a y
            rw [e0] at e; cases e
          · obtain ⟨_, _, u, e, _⟩ := k1.us a y
            rw [e0] at e; cases e
        obtain ⟨ub, kb, hb⟩ := ka.putO p2 nd2 (fun a m => ⟨(q2 a m).1, (q2 a m).2.1, no2 a m, (q2 a m).2.2⟩) j
        have no3 : ∀ a ∈ us3, a ∉ ub := fun a m z => by
          have e0 := (hu3 a m).2.2.1
          rcases hb a z with y | y
          · obtain ⟨_, _, _, u, e, _⟩ := hu2 a y
            rw [e0] at e; cases e
          · rcases ha a y with y | y
            · obtain ⟨_, _, u, e, _⟩ := q1 a y
              rw [e0] at e; cases e
            · obtain ⟨_, _, u, e, _⟩ := k2.us a y
              rw [e0] at e; cases e
        obtain ⟨uc, kc, hc'⟩ := kb.putO ro3 nd3 (fun a m => ⟨(hu3 a m).1, (hu3 a m).2.1, no3 a m, (hu3 a m).2.2.2⟩) l
        refine ⟨v1, v2, v3, rfl, ?_⟩
        refine z3 C3 H3 uc (((s1.trans s2 (by simp)).trans s3 (by simp)).up (by simp)) (fun a m => ?_) _ kc
        rcases hc' a m with y | y
        · exact .inr (s1.back (s2.back (hu3 a y).2.2.1))
        · rcases hb a y with y | y
          · exact .inr (s1.back (hu2 a y).2.2.1)
          · rcases ha a y with y | y
            · exact .inr (hu1 a y).2.2.1
            · exact .inl y
      · intro e3 n3 _ z3 C3 H3 cls dx s3 w3 rx
        exact z3 C3 H3 us (((s1.trans s2 (by simp)).trans s3 (by simp)).up (by simp)) (fun a m => .inl m) σ cls dx (k2.q s3 w3) rx
    · intro e2 n2 _ z2 C2 H2 cls dx s2 w2 rx
      exact z2 C2 H2 us ((s1.trans s2 (by simp)).up (by simp)) (fun a m => .inl m) σ cls dx (k1.q s2 w2) rx
  · intro e1 n1 _ z C1 H1 cls dx s1 w1 rx
    exact z C1 H1 us (s1.up (by simp)) (fun a m => .inl m) σ cls dx (h.ok.q s1 w1) rx
end
section
variable {X : Cx} {G : GC} {W : WX} {m1 m2 m3 : Env → T O} {a b c : Expr} {pos : Pos}
end
theorem eqB_ok {G : GC} {tb : List (Nat × Str)} {x y : Str} {tys : List KT} (hc : G.cA = cNames tb G.K) (h : eqB tb x y tys G.K = true) : EqC G (He.ga G.K x) (mAd y "__eq__" G.K) tys := by
  unfold eqB at h
  obtain ⟨h1, h⟩ := band h
  obtain ⟨h2, h⟩ := band h
  obtain ⟨h3, h⟩ := band h
  obtain ⟨h4, h5⟩ := band h
  refine ⟨He.eqO_ok h1, h2, He.eqO_ok h3, of_decide_eq_true h4, fun t m => ?_⟩
  have z := List.all_eq_true.mp h5 t m
  have ek : G.ktV t = ktOf tb G.K t := by
    cases t with
    | b n => rfl
    | c n =>
      show (G.cA n).map Value.ref = (cNames tb G.K n).map Value.ref
      rw [hc]
  split at z
  · rename_i tv e
    exact ⟨tv, by rw [ek]; exact e, z⟩
  · cases z
end Pu
set_option Elab.async false
set_option linter.all false
set_option maxRecDepth 100000
set_option maxHeartbeats 4000000
namespace Pu
open PySem L2 Stp NdefX LamX
open PyProof.Rows hiding St
def oComp (it : Env → T (List D)) (pt : Pt) (own : List Nat) (tt : Env → T Bool) (me : Env → T D) : Env → T O := fun env => (qCompR it pt own tt me env).bind fun r => .ret (.ls r)
section
variable {X : Cx} {G : GC} {W : WX} {me : Env → T D}
end
def countD (x y : D) : T D := match x with
  | .lst xs => (match y.pd, D.pdL xs with
    | some a, some bs => grd (SeqAt.shaped a = true ∧ SeqAt.shaped (.list bs) = true) (.ret (.int ((bs.countP fun z => PyData.eqv z a : Nat) : Int)))
    | _, _ => .fail)
  | _ => .fail
def qCount (mo me : Env → T D) : Env → T D := fun env => (mo env).bind fun d => match d with
  | .lst xs => (me env).bind fun y => countD (.lst xs) y
  | _ => .fail
section
variable {X : Cx} {G : GC} {W : WX} {b : Bool} {o e : Expr} {mo me : Env → T D} {ap cp : Pos}
end
def rgD (a b : Int) : List D := (List.range (b - a).toNat).map fun i => D.int (a + (i : Nat))
def lrg1 (m : Env → T D) : Env → T D := fun env => (m env).bind fun d => match d with
  | .int n => grd (0 ≤ n ∧ n ≤ 1000000) (.ret (.lst (rgD 0 n)))
  | _ => .fail
section
variable {X : Cx} {G : GC} {W : WX} {a : Expr} {ma : Env → T D} {p pos ip : Pos}
end
end Pu
set_option Elab.async false
set_option linter.all false
set_option maxRecDepth 100000
set_option maxHeartbeats 4000000
namespace Pu
open PySem L2 Stp NdefX LamX
open PyProof.Rows hiding St
def big2 : Nat := 4000
def compL2 (pt : Pt) (env : Env) (tt : Env → T Bool) (it1 : Env → T (List D)) (pt1 : Pt) (vs1 : List Nat) (tt1 : Env → T Bool) (me : Env → T D) : List D → T (List D)
  | [] => .ret []
  | d :: ds => match putP pt d env with
    | none => .fail
    | some env' => (tt env').noX.bind fun k => if k = true then (it1 env').noX.bind fun es => grd (es.length ≤ big2) ((compL pt1 (wipeE env' vs1) tt1 me es).bind fun r => (compL2 pt env tt it1 pt1 vs1 tt1 me ds).bind fun s => .ret (r ++ s)) else compL2 pt env tt it1 pt1 vs1 tt1 me ds
def qComp2 (it : Env → T (List D)) (pt : Pt) (own : List Nat) (tt : Env → T Bool) (it1 : Env → T (List D)) (pt1 : Pt) (vs1 : List Nat) (tt1 : Env → T Bool) (me : Env → T D) : Env → T D := fun env => (it env).bind fun ds => grd (ds.length ≤ big2) ((compL2 pt (wipeE env own) tt it1 pt1 vs1 tt1 me ds).bind fun r => .ret (.lst r))
section
variable {X : Cx} {G : GC} {W : WX}
theorem wipe_wipe : ∀ (vs : List Nat) (τ : St), wipe (wipe τ vs) vs = wipe τ vs := by
  intro vs
  induction vs with
  | nil => intro τ; rfl
  | cons v vs ih =>
    intro τ
    show (wipe ((wipe τ vs).set v none) vs).set v none = (wipe τ vs).set v none
    by_cases hv : v ∈ vs
    · rw [wipe_at _ v none hv, ih]
    · have q : ∀ (ws : List Nat) (τ : St), v ∉ ws → wipe (τ.set v none) ws = (wipe τ ws).set v none := by
        intro ws
        induction ws with
        | nil => intro τ _; rfl
        | cons w ws ih2 =>
          intro τ hw
          unfold wipe
          rw [ih2 τ (fun z => hw (List.mem_cons_of_mem _ z))]
          exact List.set_comm _ _ (fun z => hw (by rw [z]; exact List.mem_cons_self ..))
      rw [q vs _ hv, ih, List.set_set]
/-- what stands while a comprehension's list grows at L -/
structure Grow (G : GC) (C1 : Cf) (H1 : Hp) (σ : St) (env : Env) (us : List Addr) (L : Addr) (C : Cf) (n : Nat) (H : Hp) (vs : List V) (acc : List D) : Prop where
  st : Step [] C1 H1 C H
  at_ : H L = some (.lst vs)
  rl : RepL G C H vs acc
  ok : Ok G C n σ env us H
  nf : ¬ C.F L
  np : L ∉ C.pa
section
variable {C1 C C' : Cf} {H1 H H' : Hp} {σ : St} {env : Env} {us : List Addr} {L : Addr} {n n' : Nat} {vs : List V} {acc : List D}
theorem Grow.q (g : Grow G C1 H1 σ env us L C n H vs acc) (s : Step [] C H C' H') (w : Wf G C' n' H') : Grow G C1 H1 σ env us L C' n' H' vs acc := by
  refine ⟨g.st.trans s (by simp), s.kp L _ g.at_ (fun _ z => nomatch z) (by simp) g.np, g.rl.nx s.nx, g.ok.q s w, fun z => ?_, fun z => ?_⟩
  · rcases s.fn L z with z | z | z
    · exact g.nf z
    · cases z
    · rw [g.at_] at z; cases z
  · rcases s.pf L z with z | z
    · exact g.np z
    · rw [g.at_] at z; cases z
theorem Grow.more (g : Grow G C1 H1 σ env us L C n H vs acc) (hL : H1 L = none) (nu : L ∉ us) {v : V} {d : D} (r : Rep G C H v d) : Grow G C1 H1 σ env us L C n (upd H L (.lst (vs ++ [v]))) (vs ++ [v]) (acc ++ [d]) ∧ Nx C C H (upd H L (.lst (vs ++ [v]))) := by
  obtain ⟨nx, st⟩ := own_mut (o' := .lst (vs ++ [v])) hL g.st g.at_ g.nf (fun _ z => nomatch z) (fun _ _ z => nomatch z) (fun _ z => nomatch z)
  exact ⟨⟨st, upd_same, (g.rl.append (.cons r .nil)).nx nx, g.ok.mut nx nu g.at_ g.nf g.np (fun _ z => nomatch z) (fun _ z => nomatch z), g.nf, g.np⟩, nx⟩
end
theorem comp_inner {K : PySem.W.Frag} (hk : K = G.K) {pt1 : Pt} {vs1 : List Nat} {tt1 : Env → T Bool} {me : Env → T D} {σ σ2 : St} {env env2 : Env} {us us2 : List Addr} {C1 C4 : Cf} {H1 H4 : Hp} {L : Addr} {n4 : Nat} {vs0 : List V} {acc0 es : List D} {J1 : It} {NX : Hp → Prop} {POST : List D → Nat → Prop} {EX : D → Nat → Prop} {b0 : Nat}
    (hown : ∀ j ∈ pt1.slots, j ∈ vs1) (hL : H1 L = none) (nu : L ∉ us) (g : Grow G C1 H1 σ env us L C4 n4 H4 vs0 acc0) (k2 : Ok G C4 n4 σ2 env2 us2 H4) (nu2 : L ∉ us2) (y1 : Ylds G C4 H4 J1 es) (hes : es.length ≤ big2) (h0 : acc0.length ≤ b0) (hb0 : b0 + big2 < sizeLine)
    (w : (compL pt1 (wipeE env2 vs1) tt1 me es).wp n4 (fun r m => POST (acc0 ++ r) m) EX)
    (hN : ∀ C n H vs acc, Grow G C1 H1 σ env us L C n H vs acc → acc.length ≤ b0 + es.length → POST acc n → NX H) :
    ∃ W1 : Nat → Nat → Hp → Prop, (∃ m, W1 0 m H4) ∧ ∀ j k H, W1 j k H →
      (J1.stop j H ∧ NX H) ∨ (J1.go j H ∧ ∃ Nx1 : Hp → Prop, (∀ H', Nx1 H' → ∃ k', k' < k ∧ W1 (j + 1) k' H') ∧ ∀ x H', J1.yld j H x H' → gP K pt1 x (wipe σ2 vs1) H' fun σ3 H5 => wipe σ3 vs1 = wipe σ2 vs1 ∧ tT G W0 tt1 σ3 H5 fun b H6 =>
        if b = true then tQ G W0 false me σ3 H6 fun y H7 => ∃ acc, H7 L = some (.lst acc) ∧ acc.length < sizeLine ∧ Nx1 (upd H7 L (.lst (acc ++ [y]))) else Nx1 H6) := by
  obtain ⟨us3, e3, sb3⟩ := k2.env.wipeL vs1
  have k3 := k2.sub e3 sb3
  have nu3 : L ∉ us3 := fun z => nu2 (sb3.subset z)
  refine ⟨fun j k H => k = es.length - j ∧ j ≤ es.length ∧ ∃ C n vs acc, Grow G C1 H1 σ env us L C n H vs acc ∧ Nx C4 C H4 H ∧ acc.length ≤ b0 + j ∧ Ok G C n (wipe σ2 vs1) (wipeE env2 vs1) us3 H ∧ (compL pt1 (wipeE env2 vs1) tt1 me (es.drop j)).wp n (fun r m => POST (acc ++ r) m) EX, ⟨es.length, by simp, Nat.zero_le _, C4, n4, vs0, acc0, g, Nx.refl C4 H4, h0, k3, by rw [List.drop_zero]; exact w⟩, ?_⟩
  rintro j k Hi ⟨rfl, hj, Ci, ni, vs, acc, gi, ni4, la, ki, wi⟩
  by_cases hlt : j < es.length
  · have ei : es[j]? = some es[j] := List.getElem?_eq_getElem hlt
    obtain ⟨go, yl⟩ := y1.go Ci Hi ni4 j _ ei
    refine .inr ⟨go, fun Hn => j < es.length ∧ ∃ C n vs acc, Grow G C1 H1 σ env us L C n Hn vs acc ∧ Nx C4 C H4 Hn ∧ acc.length ≤ b0 + (j + 1) ∧ Ok G C n (wipe σ2 vs1) (wipeE env2 vs1) us3 Hn ∧ (compL pt1 (wipeE env2 vs1) tt1 me (es.drop (j + 1))).wp n (fun r m => POST (acc ++ r) m) EX,
      fun H' p => ⟨es.length - (j + 1), by omega, rfl, p.1, p.2⟩, fun x H' y => ?_⟩
    obtain ⟨sy, wy, ry⟩ := yl x H' y
    have gy := gi.q sy (wy _ gi.ok.wf)
    have ky := ki.q sy (wy _ ki.wf)
    have ny := ni4.trans sy.nx
    rw [List.drop_eq_getElem_cons hlt] at wi
    unfold compL at wi
    cases ep : putP pt1 es[j] (wipeE env2 vs1) with
    | none => rw [ep] at wi; exact False.elim wi
    | some env' =>
      rw [ep] at wi
      refine gP_ok hk ky ry ep fun σ' us' ok' sub' wp' => ⟨?_, Ci, ni, env', us', ok', ?_⟩
      · rw [wp' vs1 hown]
        exact wipe_wipe vs1 σ2
      refine T.wp_mono (T.wp_noX (E' := fun _ _ => False) (T.wp_bind wi)) (fun k nk _ wk Ck Hk bk sk wfk rk => ?_) (fun _ _ _ z => False.elim z)
      have rk : bk = k := rk
      subst rk
      have gk := gy.q sk wfk
      have kk := ky.q sk wfk
      have nk4 := ny.trans sk.nx
      cases bk with
      | false => exact iteF ⟨hlt, Ck, nk, vs, acc, gk, nk4, by omega, kk, wk⟩
      | true =>
        have ok'k := ok'.q sk wfk
        refine iteT ⟨Ck, nk, env', us', ok'k, ?_⟩
        refine T.wp_mono (T.wp_noX (E' := fun _ _ => False) (T.wp_bind wk)) (fun d ne _ we Ce He v se wfe re => ?_) (fun _ _ _ z => False.elim z)
        have ge := gk.q se wfe
        have ke := kk.q se wfe
        obtain ⟨gm, nm⟩ := ge.more hL nu re.unview
        refine ⟨vs, ge.at_, ?_, hlt, Ce, ne, vs ++ [v], acc ++ [d], gm, (nk4.trans se.nx).trans nm, ?_, ke.mut nm nu3 ge.at_ ge.nf ge.np (fun _ z => nomatch z) (fun _ z => nomatch z), ?_⟩
        · rw [ge.rl.length]
          exact Nat.lt_of_le_of_lt (Nat.le_trans la (Nat.add_le_add_left (Nat.le_trans hj hes) _)) hb0
        · rw [List.length_append]
          exact Nat.succ_le_succ la
        · refine T.wp_mono (T.wp_bind we) (fun r m _ z => ?_) (fun e m _ z => z)
          have z : POST (acc ++ d :: r) m := z
          rw [show acc ++ d :: r = acc ++ [d] ++ r by simp] at z
          exact z
  · have e : j = es.length := by omega
    subst e
    refine .inl ⟨y1.stop Ci Hi ni4, ?_⟩
    rw [List.drop_length] at wi
    have wi : POST (acc ++ []) ni := wi
    rw [List.append_nil] at wi
    exact hN Ci ni Hi vs acc gi la wi
theorem comp2_read {K : PySem.W.Frag} (hk : K = G.K) {it : Env → T (List D)} {pt : Pt} {own : List Nat} {tt : Env → T Bool} {it1 : Env → T (List D)} {pt1 : Pt} {vs1 : List Nat} {tt1 : Env → T Bool} {me : Env → T D} {σ : St} {H : Hp} {Q : VK} (hown : ∀ j ∈ pt.slots, j ∈ own) (hown1 : ∀ j ∈ pt1.slots, j ∈ vs1)
    (h : tQ G W false (qComp2 it pt own tt it1 pt1 vs1 tt1 me) σ H Q) : tLc2 (tI G W it) (gP K pt) (tT G W0 tt) (tI G W0 it1) (gP K pt1) (tT G W0 tt1) (tQ G W0 false me) own vs1 σ H Q := by
  obtain ⟨C, n, env, us, h⟩ := h
  refine ⟨C, n, env, us, (h.bind (R := rJ G)).imp ?_⟩
  rintro J H1 ⟨C1, n1, ds, s1, y1, h1⟩ L hL
  obtain ⟨hlen, h1⟩ := h1.grd
  have nLu : L ∉ us := fun z => by
    obtain ⟨_, _, o, e, _⟩ := h1.ok.us L z
    rw [hL] at e
    cases e
  obtain ⟨us2, e2, sb2⟩ := h1.ok.env.wipeL own
  have ok2 := h1.ok.sub e2 sb2
  have nu2 : L ∉ us2 := fun z => nLu (sb2.subset z)
  have g0 : Grow G C1 H1 (wipe σ own) (wipeE env own) us2 L C1 n1 (upd H1 L (.lst [])) [] [] := by
    have nx := (step_tup (C := C1) (o := .lst []) hL).nx
    refine ⟨step_tup hL, upd_same, .nil, ⟨ok2.wf.tup hL, e2.nx nx rfl fun a m u e => same_new hL _ _ e, ok2.nd, fun a m => ?_⟩, fun z => ?_, h1.ok.wf.pne hL⟩
    · obtain ⟨q1, q2, u, q3, q4⟩ := ok2.us a m
      exact ⟨q1, q2, u, same_new hL _ _ q3, q4⟩
    · obtain ⟨⟨o, e, _⟩, _⟩ := h1.ok.wf.fz L z
      rw [hL] at e
      cases e
  refine ⟨fun i m Hi => m = ds.length - i ∧ i ≤ ds.length ∧ ∃ Ci ni vs acc, Grow G C1 H1 (wipe σ own) (wipeE env own) us2 L Ci ni Hi vs acc ∧ acc.length ≤ i * big2 ∧
    (compL2 pt (wipeE env own) tt it1 pt1 vs1 tt1 me (ds.drop i)).wp ni (fun r n' => ∀ C' H' v, Step [] C1 H1 C' H' → Wf G C' n' H' → Rep G (C'.vw false) H' v (.lst (acc ++ r)) → Q v H') (fun _ _ => True), ⟨ds.length, by simp, Nat.zero_le _, C1, n1, [], [], g0, Nat.zero_le _, ?_⟩, ?_⟩
  · rw [List.drop_zero]
    exact T.wp_mono (T.wp_bind h1.wp) (fun r m _ z C' H' v s w rr => z C' H' v s w rr) (fun _ _ _ _ => trivial)
  · rintro i m Hi ⟨rfl, hi, Ci, ni, vs, acc, gi, la, wi⟩
    by_cases hlt : i < ds.length
    · have ei : ds[i]? = some ds[i] := List.getElem?_eq_getElem hlt
      obtain ⟨go, yl⟩ := y1.go Ci Hi gi.st.nx i _ ei
      refine .inr ⟨go, fun Hn => i < ds.length ∧ ∃ Ci ni vs acc, Grow G C1 H1 (wipe σ own) (wipeE env own) us2 L Ci ni Hn vs acc ∧ acc.length ≤ (i + 1) * big2 ∧
        (compL2 pt (wipeE env own) tt it1 pt1 vs1 tt1 me (ds.drop (i + 1))).wp ni (fun r n' => ∀ C' H' v, Step [] C1 H1 C' H' → Wf G C' n' H' → Rep G (C'.vw false) H' v (.lst (acc ++ r)) → Q v H') (fun _ _ => True),
        fun H' p => ⟨ds.length - (i + 1), by omega, rfl, p.1, p.2⟩, fun x H' y => ?_⟩
      obtain ⟨sy, wy, ry⟩ := yl x H' y
      have gy := gi.q sy (wy _ gi.ok.wf)
      rw [List.drop_eq_getElem_cons hlt] at wi
      unfold compL2 at wi
      have hi1 : i * big2 + big2 = (i + 1) * big2 := (Nat.succ_mul i big2).symm
      cases ep : putP pt ds[i] (wipeE env own) with
      | none => rw [ep] at wi; exact False.elim wi
      | some env' =>
        rw [ep] at wi
        refine gP_ok hk gy.ok ry ep fun σ' us' ok' sub' wp' => ⟨?_, Ci, ni, env', us', ok', ?_⟩
        · rw [wp' own hown]
          exact wipe_wipe own σ
        have nu' : L ∉ us' := fun z => nu2 (sub' L z)
        refine T.wp_mono (T.wp_noX (E' := fun _ _ => False) (T.wp_bind wi)) (fun k nk _ wk Ck Hk bk sk wfk rk => ?_) (fun _ _ _ z => False.elim z)
        have rk : bk = k := rk
        subst rk
        have gk := gy.q sk wfk
        cases bk with
        | false => exact iteF ⟨hlt, Ck, nk, vs, acc, gk, by omega, wk⟩
        | true =>
          have ok'k := ok'.q sk wfk
          refine iteT ⟨Ck, nk, env', us', ok'k, ?_⟩
          refine T.wp_mono (T.wp_noX (E' := fun _ _ => False) (T.wp_bind wk)) (fun es ne _ we Ce He J1 se wfe yes => ?_) (fun _ _ _ z => False.elim z)
          have ge := gk.q se wfe
          have oke := ok'k.q se wfe
          obtain ⟨hes, we⟩ := grd_wp we
          refine comp_inner hk (EX := fun _ _ => True) (POST := fun a m => (compL2 pt (wipeE env own) tt it1 pt1 vs1 tt1 me (ds.drop (i + 1))).wp m (fun s n' => ∀ C' H' v, Step [] C1 H1 C' H' → Wf G C' n' H' → Rep G (C'.vw false) H' v (.lst (a ++ s)) → Q v H') (fun _ _ => True)) (b0 := i * big2) hown1 hL nu2 ge oke nu' yes hes la ?_ ?_ ?_
          · have : i * big2 ≤ big2 * big2 := Nat.mul_le_mul_right _ (Nat.le_trans hi hlen)
            exact Nat.lt_of_le_of_lt (Nat.add_le_add_right this _) (by rw [sizeLine_eq]; decide)
          · refine T.wp_mono (T.wp_bind we) (fun r m _ z => T.wp_mono (T.wp_bind z) (fun s n' _ y C' H' v st w rr => y C' H' v st w ?_) (fun _ _ _ z => trivial)) (fun _ _ _ _ => trivial)
            rw [← List.append_assoc]
            exact rr
          · intro C n H vs' acc' g' la' post
            exact ⟨hlt, C, n, vs', acc', g', by omega, post⟩
    · have e : i = ds.length := by omega
      subst e
      refine .inl ⟨y1.stop Ci Hi gi.st.nx, ?_⟩
      rw [List.drop_length] at wi
      have wi : ∀ C' H' v, Step [] C1 H1 C' H' → Wf G C' ni H' → Rep G (C'.vw false) H' v (.lst (acc ++ [])) → Q v H' := wi
      rw [List.append_nil] at wi
      obtain ⟨C', t1, t2, t3⟩ := frz_fin hL gi.st gi.at_ gi.rl gi.np gi.ok.wf
      exact wi C' Hi (.ref L) t1 t2 t3
theorem s_comp2 {it : Env → T (List D)} {pt pt1 : Pt} {tt tt1 : Env → T Bool} {it1 : Env → T (List D)} {me : Env → T D} {elt tg iter tg1 iter1 : Expr} {ifs ifs1 : List Expr} {scope : Scope} {own : List (Str × Nat)} {vs1 : List Nat} {pos : Pos} (hk : X.K = G.K) (hc : X.calm = true) (hN : X.N.Nodup) (hi : PI X tg iter (tI G W it)) (ok : BlkOk X.N X.env.scope scope own)
    (hown : ∀ j ∈ pt.slots, j ∈ own.map (·.2)) (hown1 : ∀ j ∈ pt1.slots, j ∈ vs1) (hv : ∀ i ∈ vs1, i ∈ own.map (·.2))
    (hg : ∀ (s : Shared) (H : Hp) (C : Addr) (cl : List (Str × Addr)) (fp : List Addr), PG (X.blk s H scope (compEnvC scope cl C X.env) fp) tg (gP X.K pt)) (ht : ∀ (s : Shared) (H : Hp) (C : Addr) (cl : List (Str × Addr)) (fp : List Addr), PTs (X.blk s H scope (compEnvC scope cl C X.env) fp) ifs (tT G W0 tt))
    (hi1 : ∀ (s : Shared) (H : Hp) (C : Addr) (cl : List (Str × Addr)) (fp : List Addr), PI (X.blk s H scope (compEnvC scope cl C X.env) fp) tg1 iter1 (tI G W0 it1))
    (hg1 : ∀ (s : Shared) (H : Hp) (C : Addr) (cl : List (Str × Addr)) (fp : List Addr), PG (X.blk s H scope (compEnvC scope cl C X.env) fp) tg1 (gP X.K pt1)) (ht1 : ∀ (s : Shared) (H : Hp) (C : Addr) (cl : List (Str × Addr)) (fp : List Addr), PTs (X.blk s H scope (compEnvC scope cl C X.env) fp) ifs1 (tT G W0 tt1))
    (he : ∀ (s : Shared) (H : Hp) (C : Addr) (cl : List (Str × Addr)) (fp : List Addr), PE (X.blk s H scope (compEnvC scope cl C X.env) fp) elt (tQ G W0 false me)) (hs : ∀ x, foldedSetIterable iter X.env x = pure x := by intro _; rfl) (hs1 : ∀ env x, foldedSetIterable iter1 env x = pure x := by intro _ _; rfl) :
    PE X (.ListComp elt [⟨tg, iter, ifs, 0⟩, ⟨tg1, iter1, ifs1, 0⟩] scope pos) (tQ G W false (qComp2 it pt (own.map (·.2)) tt it1 pt1 vs1 tt1 me)) := PE.imp (pe_lc2 hc hN hi ok hv hg ht hi1 hg1 ht1 he hs hs1) fun σ H Q h => comp2_read hk hown hown1 h
end
end Pu
set_option Elab.async false
set_option linter.all false
set_option maxRecDepth 100000
set_option maxHeartbeats 4000000
namespace Pu
open PySem L2 Stp NdefX LamX
open PyProof.Rows hiding St
def listO : D → T O
  | .lst xs => .ret (.ls xs)
  | .tup xs => .ret (.ls xs)
  | .wt xs => .ret (.ls xs)
  | _ => .fail
section
variable {X : Cx} {G : GC} {W : WX} {m : Env → T D} {e : Expr} {p pos : Pos}
/-- list(e), a new list -/
theorem n_list (hk : X.K = G.K) (hg : Gl X "list") (hm : X.mg "list" = none) (ha : PE X e (tQ G W false m)) (hs : starEach [e] X.env = (false, eval e X.env) :: starEach [] X.env := by rfl) (hpl : (backTo pos (starEach [] X.env)).any (·.1) = false := by rfl) :
    PE X (.Call (.Name "list" p) [e] [] pos) (tN G W fun env => (m env).bind listO) := by
  have hc := call_list_of (X := X)
  rw [hk] at hc
  refine PE.imp (pe_callTy hc hg hm (by decide +kernel) (pa_cons ha pa_nil hs) (by decide) (by decide) hs hpl) fun σ H Q h => ?_
  obtain ⟨C, n, env, us, h⟩ := h
  refine ⟨C, n, env, us, (h.bind (R := rV G false)).imp ?_⟩
  rintro v H1 ⟨C1, n1, d, s1, r1, h1⟩
  have r1 := r1.unview
  cases r1 <;> try exact h1.no.elim
  case lst p vs ds f hp l => exact ⟨p, vs, rfl, .inl (SqL.of hp), fun q hq => h1.retS (step_tup hq) (h1.ok.wf.tup hq) (rN_ls s1 h1.ok.wf hq l)⟩
  case tup p vs ds hp l => exact ⟨p, vs, rfl, .inr (SqT.of hp), fun q hq => h1.retS (step_tup hq) (h1.ok.wf.tup hq) (rN_ls s1 h1.ok.wf hq l)⟩
  case wt p vs ds hp l => exact ⟨p, vs, rfl, .inr (sqT_wt hp), fun q hq => h1.retS (step_tup hq) (h1.ok.wf.tup hq) (rN_ls s1 h1.ok.wf hq l)⟩
end
def compLL (pt : Pt) (env : Env) (me : Env → T O) : List D → T (List (List D))
  | [] => .ret []
  | d :: ds => match putP pt d env with
    | none => .fail
    | some env' => (me env').noX.bind fun o => match o with
      | .ls y => (compLL pt env me ds).bind fun r => .ret (y :: r)
      | _ => .fail
def oCompLL (it : Env → T (List D)) (pt : Pt) (own : List Nat) (me : Env → T O) : Env → T O := fun env => (it env).bind fun ds => grd (ds.length ≤ big) ((compLL pt (wipeE env own) me ds).bind fun r => .ret (.ll r))
structure GrowLL (G : GC) (C1 : Cf) (H1 : Hp) (σ : St) (env : Env) (us : List Addr) (L : Addr) (C : Cf) (n : Nat) (H : Hp) (as : List Addr) (dss : List (List D)) : Prop where
  st : Step [] C1 H1 C H
  at_ : H L = some (.lst (as.map V.ref))
  ow : OwnL G C H as dss
  ok : Ok G C n σ env us H
  fr : ∀ a ∈ L :: as, ¬ C.F a ∧ a ∉ C.pa ∧ H1 a = none ∧ ∃ u, H a = some u ∧ noTbl u
  nd : (L :: as).Nodup
section
variable {G : GC} {C1 C C' : Cf} {H1 H H' : Hp} {σ : St} {env : Env} {us : List Addr} {L : Addr} {n n' : Nat} {as : List Addr} {dss : List (List D)}
theorem OwnL.len {as : List Addr} {dss : List (List D)} (o : OwnL G C H as dss) : as.length = dss.length := by
  induction o with
  | nil => rfl
  | cons _ _ _ ih => simp [ih]
theorem OwnL.snoc {a : Addr} {vs : List V} {ds : List D} (h : H a = some (.lst vs)) (r : RepL G C H vs ds) : ∀ {as : List Addr} {dss : List (List D)}, OwnL G C H as dss → OwnL G C H (as ++ [a]) (dss ++ [ds])
  | _, _, .nil => .cons h r .nil
  | _, _, .cons h' r' o => .cons h' r' (OwnL.snoc h r o)
theorem GrowLL.q (g : GrowLL G C1 H1 σ env us L C n H as dss) (s : Step [] C H C' H') (w : Wf G C' n' H') : GrowLL G C1 H1 σ env us L C' n' H' as dss := by
  have keep : ∀ a ∈ L :: as, ∀ u, H a = some u → H' a = some u := fun a m u e => by
    obtain ⟨_, q2, _, u', e', t⟩ := g.fr a m
    rw [e] at e'
    cases e'
    exact s.kp a u e t (by simp) q2
  refine ⟨g.st.trans s (by simp), keep L (List.mem_cons_self ..) _ g.at_, g.ow.nx s.nx fun a m => keep a (List.mem_cons_of_mem _ m), g.ok.q s w, fun a m => ?_, g.nd⟩
  obtain ⟨q1, q2, q3, u, e, t⟩ := g.fr a m
  refine ⟨fun z => ?_, fun z => ?_, q3, u, keep a m u e, t⟩
  · rcases s.fn a z with z | z | z
    · exact q1 z
    · cases z
    · rw [e] at z; cases z
  · rcases s.pf a z with z | z
    · exact q2 z
    · rw [e] at z; cases z
theorem GrowLL.more (g : GrowLL G C1 H1 σ env us L C n H as dss) (nu : L ∉ us) {a : Addr} {vs : List V} {ds : List D} (ha : H a = some (.lst vs)) (r : RepL G C H vs ds) (nf : ¬ C.F a) (np : a ∉ C.pa) (h1 : H1 a = none) (na : a ∉ L :: as) :
    GrowLL G C1 H1 σ env us L C n (upd H L (.lst (as.map V.ref ++ [.ref a]))) (as ++ [a]) (dss ++ [ds]) ∧ Nx C C H (upd H L (.lst (as.map V.ref ++ [.ref a]))) := by
  obtain ⟨f1, f2, f3, _⟩ := g.fr L (List.mem_cons_self ..)
  obtain ⟨nx, st⟩ := own_mut (o' := .lst (as.map V.ref ++ [.ref a])) f3 g.st g.at_ f1 (fun _ z => nomatch z) (fun _ _ z => nomatch z) (fun _ z => nomatch z)
  have nd := g.nd
  rw [List.nodup_cons] at nd
  have neL : ∀ b ∈ as ++ [a], b ≠ L := fun b m e => by
    rcases List.mem_append.mp m with m | m
    · exact nd.1 (by rw [← e]; exact m)
    · rw [List.mem_singleton.mp m] at e
      exact na (by rw [e]; exact List.mem_cons_self ..)
  refine ⟨⟨st, by rw [upd_same, List.map_append]; rfl, (OwnL.snoc ha r g.ow).nx nx fun b m u e => by rw [upd_ne (neL b m)]; exact e, g.ok.mut nx nu g.at_ f1 f2 (fun _ z => nomatch z) (fun _ z => nomatch z), fun b m => ?_, ?_⟩, nx⟩
  · rcases List.mem_cons.mp m with e | m
    · rw [e]
      exact ⟨f1, f2, f3, _, upd_same, fun _ z => nomatch z⟩
    · have hb := neL b m
      rcases List.mem_append.mp m with m | m
      · obtain ⟨q1, q2, q3, u, e, t⟩ := g.fr b (List.mem_cons_of_mem _ m)
        exact ⟨q1, q2, q3, u, by rw [upd_ne hb]; exact e, t⟩
      · rw [List.mem_singleton.mp m] at hb ⊢
        exact ⟨nf, np, h1, _, by rw [upd_ne hb]; exact ha, fun _ z => by cases z⟩
  · rw [List.nodup_cons]
    refine ⟨fun z => neL L z rfl, ?_⟩
    rw [List.nodup_append]
    exact ⟨nd.2, by simp, fun b hb c hc e => na (by rw [← List.mem_singleton.mp hc, ← e]; exact List.mem_cons_of_mem _ hb)⟩
end
section
variable {X : Cx} {G : GC} {W : WX}
end
section
variable {G : GC} {C : Cf} {n : Nat} {H : Hp} {σ : St} {env : Env} {us : List Addr} {i : Nat}
theorem EnvR.atS : ∀ {σ : St} {env : Env} {us : List Addr} {i : Nat} {o : O}, EnvR G C H σ env us → env[i]? = some (some o) → ∃ v us1, σ[i]? = some (some v) ∧ OwnR G C H v o us1 ∧ us1.Sublist us
  | _, _, _, _, _, .nil, e => by simp at e
  | _, _, _, 0, _, .skip _, e => by simp at e
  | _, _, _, i + 1, o, .skip r, e => by
    obtain ⟨v, us1, h1, h2, h3⟩ := EnvR.atS (i := i) (o := o) r (by simpa using e)
    exact ⟨v, us1, by simpa using h1, h2, h3⟩
  | _, _, _, 0, o, .has r _, e => by
    simp at e
    subst e
    exact ⟨_, _, rfl, r, List.sublist_append_left ..⟩
  | _, _, _, i + 1, o, .has (us1 := u1) (us := us) _ r, e => by
    obtain ⟨v, us1, h1, h2, h3⟩ := EnvR.atS (i := i) (o := o) r (by simpa using e)
    exact ⟨v, us1, by simpa using h1, h2, h3.trans (List.sublist_append_right u1 us)⟩
/-- what a slot owns: one of its objects is replaced -/
theorem Ok.mutP {o o' : O} {u u' : HO} {p : Addr} {v0 : V} (k : Ok G C n σ env us H) (f : σ[i]? = some (some v0)) (e : env[i]? = some (some o)) (mp : p ∈ us) (hp : H p = some u) (h1 : ∀ xs, u ≠ .tup xs) (h2 : ∀ x y, u ≠ .frz x y) (h3 : ∀ φ, u = .ext φ → ¬ Keep p φ) (t' : noTbl u')
    (h : Nx C C H (upd H p u') → ∀ us1, OwnR G C H v0 o us1 → p ∈ us1 ∧ OwnR G C (upd H p u') v0 o' us1) : Ok G C n σ (env.set i (some o')) us (upd H p u') ∧ Step us C H C (upd H p u') := by
  obtain ⟨nf, np, w, e1, t⟩ := k.us p mp
  rw [hp] at e1
  cases e1
  have ne : ∀ b w, H b = some w → w ≠ u → upd H p u' b = some w := fun b w h d => by
    rw [upd_ne (fun z => d (by rw [z, hp] at h; exact (Option.some.inj h).symm))]
    exact h
  have nx : Nx C C H (upd H p u') := ⟨fun b w f h _ => ⟨f, by rw [upd_ne (fun z => nf (by rw [← z]; exact f))]; exact h⟩, (fun b xs h => ne b _ h fun z => h1 xs z.symm), (fun b w x h => ne b _ h fun z => h2 w x z.symm), (fun b φ h k => by
    by_cases e : b = p
    · rw [e] at h k; rw [hp] at h; exact absurd k (h3 φ (Option.some.inj h))
    · rw [upd_ne e]; exact h), fun _ h => h⟩
  have kp : ∀ b, b ≠ p → ∀ w, H b = some w → upd H p u' b = some w := fun b hb w h => by rw [upd_ne hb]; exact h
  refine ⟨⟨k.wf.mut hp nf np t h3, EnvR.mutO nx kp k.env k.nd f e (h nx), k.nd, fun b m => ?_⟩, fun b w q _ nu _ => ?_, fun b w q => ?_, nx, fun b z => .inl z, fun b z => .inl z, rfl⟩
  · obtain ⟨q1, q2, w, q3, q4⟩ := k.us b m
    refine ⟨q1, q2, ?_⟩
    by_cases hb : b = p
    · rw [hb]
      exact ⟨u', upd_same, t'⟩
    · exact ⟨w, kp b hb w q3, q4⟩
  · exact kp b (fun z => nu (by rw [z]; exact mp)) w q
  · by_cases hb : b = p
    · rw [hb]
      exact ⟨u', upd_same⟩
    · exact ⟨w, kp b hb w q⟩
theorem OwnL.at_ : ∀ {as : List Addr} {dss : List (List D)} {j : Nat} {xs : List D}, OwnL G C H as dss → dss[j]? = some xs → ∃ a vs, as[j]? = some a ∧ H a = some (.lst vs) ∧ RepL G C H vs xs
  | _, _, _, _, .nil, e => by simp at e
  | _, _, 0, _, .cons h r _, e => by
    simp at e
    subst e
    exact ⟨_, _, rfl, h, r⟩
  | _, _, j + 1, xs, .cons _ _ o, e => by
    obtain ⟨a, vs, h1, h2⟩ := OwnL.at_ (j := j) (xs := xs) o (by simpa using e)
    exact ⟨a, vs, by simpa using h1, h2⟩
/-- one of the lists is replaced -/
theorem OwnL.put {p : Addr} {vs' : List V} {ys : List D} (nx : Nx C C H (upd H p (.lst vs'))) (r : RepL G C H vs' ys) : ∀ {as : List Addr} {dss : List (List D)} {j : Nat}, OwnL G C H as dss → as.Nodup → as[j]? = some p → OwnL G C (upd H p (.lst vs')) as (dss.set j ys)
  | _, _, _, .nil, _, e => by simp at e
  | _, _, 0, .cons h q o, nd, e => by
    simp at e
    subst e
    rw [List.nodup_cons] at nd
    exact .cons upd_same (r.nx nx) (o.nx nx fun b m u z => by rw [upd_ne (fun y => nd.1 (by rw [← y]; exact m))]; exact z)
  | _, _, j + 1, .cons (a := a) h q o, nd, e => by
    rw [List.nodup_cons] at nd
    have e' : _ := (by simpa using e : _)
    have m : p ∈ _ := List.mem_of_getElem? e'
    exact .cons (by rw [upd_ne (fun y => nd.1 (by rw [y]; exact m))]; exact h) (q.nx nx) (OwnL.put nx r (j := j) o nd.2 e')
theorem OwnR.ll_inj {a : Addr} {as bs : List Addr} {dss : List (List D)} {us1 : List Addr} (h : H a = some (.lst (as.map V.ref))) (q : OwnR G C H (.ref a) (.ll dss) us1) : us1 = a :: as ∧ OwnL G C H as dss := by
  cases q with
  | @ll _ cs _ hq oq =>
    rw [h] at hq
    have e : as.map V.ref = cs.map V.ref := by
      injection (Option.some.inj hq)
    have e2 : as = cs := by
      have inj : Function.Injective V.ref := fun x y z => by cases z; rfl
      exact (List.map_inj_right (fun x y z => by cases z; rfl)).mp e
    subst e2
    exact ⟨rfl, oq⟩
end
def ownLL (i : Nat) (env : Env) (k : List (List D) → T Fl) : T Fl := match env[i]? with
  | some (some (.ll xss)) => k xss
  | _ => .fail
def ixA (n : Nat) : D → T Nat
  | .int k => (match ixN n k with
    | some j => .ret j
    | none => .fail)
  | _ => .fail
def setLLS (i : Nat) (mi mj m : Env → T D) : Env → T Fl := fun env => ownLL i env fun xss => exS (fun env => (m env).bind fun d => (mi env).bind fun a => (ixA xss.length a).bind fun ja => (mj env).bind fun b => .ret (d, ja, b)) (fun p env => (ixA (xss.getD p.2.1 []).length p.2.2).bind fun jb => .ret (.nx (env.set i (some (.ll (xss.set p.2.1 ((xss.getD p.2.1 []).set jb p.1))))))) env
theorem ownLL_at {n : Nat} {i : Nat} {env : Env} {k : List (List D) → T Fl} {Q : Fl → Nat → Prop} {E : D → Nat → Prop} (h : (ownLL i env k).wp n Q E) : ∃ xs, env[i]? = some (some (.ll xs)) ∧ (k xs).wp n Q E := by
  unfold ownLL at h
  cases e : env[i]? with
  | none => rw [e] at h; exact False.elim h
  | some o =>
    rw [e] at h
    cases o with
    | none => exact False.elim h
    | some o => cases o <;> first | exact ⟨_, rfl, h⟩ | exact False.elim h
theorem ixA_wp {α : Type} {m : Nat} {d : D} {f : Nat → T α} {n : Nat} {Q : α → Nat → Prop} {E : D → Nat → Prop} (h : ((ixA m d).bind f).wp n Q E) : ∃ k j, d = .int k ∧ ixN m k = some j ∧ (f j).wp n Q E := by
  cases d <;> try exact False.elim h
  case int k =>
    unfold ixA at h
    cases e : ixN m k with
    | none => simp only [e] at h; exact False.elim h
    | some j => simp only [e] at h; exact ⟨k, j, rfl, e, h⟩
section
variable {X : Cx} {G : GC} {W : WX} {i : Nat} {me mi mj : Env → T D} {o e ei ej : Expr} {pos : Pos}
end
section
variable {X : Cx} {G : GC} {W : WX} {i : Nat} {me mi : Env → T D} {o e ei : Expr} {pos : Pos}
end
section
variable {X : Cx} {G : GC} {W : WX} {a : Expr} {ma : Env → T D} {p pos ip p2 : Pos}
end
end Pu
set_option Elab.async false
set_option linter.all false
set_option maxRecDepth 100000
set_option maxHeartbeats 4000000
namespace Pu
open PySem L2 Stp NdefX
open PyProof.Rows hiding St
def blIs : D → Bool → Bool
  | .bl c, b => c == b
  | _, _ => false
def isbD : D → D → T D
  | d, .bl b => .ret (.bl (blIs d b))
  | _, _ => .fail
def notbD : D → D → T D
  | d, .bl b => .ret (.bl (!blIs d b))
  | _, _ => .fail
section
variable {X : Cx} {G : GC} {W : WX} {b b1 b2 : Bool} {ma mb : Env → T D} {a c : Expr} {pos : Pos}
end
end Pu
set_option Elab.async false
set_option linter.all false
set_option maxRecDepth 100000
set_option maxHeartbeats 4000000
namespace Pu
open PySem L2 Stp NdefX LamX
open PyProof.Rows hiding St
def llOf : O → O → T O
  | .ls xs, .ls ys => .ret (.ll [xs, ys])
  | _, _ => .fail
def oLL2 (m1 m2 : Env → T O) : Env → T O := fun env => (m1 env).bind fun a => (m2 env).bind fun b => llOf a b
section
variable {X : Cx} {G : GC} {W : WX} {m1 m2 : Env → T O} {a b : Expr} {pos : Pos}
end
end Pu
set_option Elab.async false
set_option linter.all false
set_option maxRecDepth 100000
set_option maxHeartbeats 4000000
namespace Pu
open PySem L2 Stp NdefX LamX
open PyProof.Rows hiding St
def endO : Fl → T O
  | .ro o => .ret o
  | .rt d => .ret (.fz d)
  | .nx _ => .ret (.fz .non)
  | .ex e _ => .ex e
  | _ => .fail
def runO (nN : Nat) (m : Env → T Fl) (ds : List D) : T O := (m (startE nN ds)).noX.bind endO
section
variable {G : GC} {C : Cf} {H : Hp}
end
section
variable {P : Program} {w : World} {K : PySem.W.Frag} {mg : Str → Option Value} {base : Heap} {G : GC}
end
/-- return x, a name of one's own -/
def retO (i : Nat) : Env → T Fl := fun env => match env[i]? with
  | some (some o) => .ret (.ro o)
  | _ => .fail
def retN (m : Env → T O) : Env → T Fl := exS m fun o _ => .ret (.ro o)
/-- f(..) that gives back a new thing -/
def qNO (f : List D → T O) (m : Env → T (List D)) : Env → T O := fun env => (m env).bind f
/-- return x, e: x an own list -/
def retT (i : Nat) (m : Env → T D) : Env → T Fl := fun env => match env[i]? with
  | some (some (.ls xs)) => exS m (fun d env => .ret (.ro (.tl 0 [.non, d] xs))) env
  | _ => .fail
/-- (a tuple of one's own)[k], the list -/
def tlAt (k : Nat) : O → T O
  | .tl j _ xs => if j = k then .ret (.ls xs) else .fail
  | _ => .fail
section
variable {X : Cx} {G : GC} {W : WX} {i k : Nat} {f : Addr} {fd : FuncData} {ps : List Str} {x : Str} {p pos : Pos} {e : Expr} {es : List Expr} {ma : Env → T (List D)} {mf : List D → T O} {mo : Env → T O} {me : Env → T D}
end
end Pu
set_option Elab.async false
set_option linter.all false
set_option maxRecDepth 100000
set_option maxHeartbeats 4000000
namespace Pu
open PySem L2 Stp NdefX LamX
open PyProof.Rows hiding St
/-- x + e, x an own list: a new list -/
def addO (i : Nat) (m : Env → T D) : Env → T O := fun env => match env[i]? with
  | some (some (.ls xs)) => (m env).bind fun d => match d with
    | .lst ys => grd (xs.length + ys.length ≤ big) (.ret (.ls (xs ++ ys)))
    | _ => .fail
  | _ => .fail
/-- tuple(x), x an own list -/
def tupO (i : Nat) : Env → T D := fun env => match env[i]? with
  | some (some (.ls xs)) => .ret (.tup xs)
  | _ => .fail
/-- list(x), x an own list: a new list -/
def lstO (i : Nat) : Env → T O := fun env => match env[i]? with
  | some (some (.ls xs)) => .ret (.ls xs)
  | _ => .fail
section
variable {X : Cx} {G : GC} {W : WX} {i : Nat} {p pos : Pos} {e c : Expr} {me : Env → T D}
theorem own_at {α β : Type} {R : RR α β} {σ : St} {env : Env} {us : List Addr} {C : Cf} {n : Nat} {H : Hp} {k : List D → T α} {Q : β → Hp → Prop} (h : At G W R σ env us C n H (match env[i]? with | some (some (.ls xs)) => k xs | _ => .fail) Q) :
    ∃ xs b, env[i]? = some (some (.ls xs)) ∧ σ[i]? = some (some (V.ref b)) ∧ (∃ ws, H b = some (.lst ws) ∧ RepL G C H ws xs) ∧ b ∈ us ∧ At G W R σ env us C n H (k xs) Q := by
  cases q : env[i]? with
  | none => rw [q] at h; exact h.no.elim
  | some oo =>
    cases oo with
    | none => rw [q] at h; exact h.no.elim
    | some o =>
      rw [q] at h
      cases o <;> try exact h.no.elim
      rename_i xs
      obtain ⟨v, us1, g1, g2, g3⟩ := EnvR.atS h.ok.env q
      cases g2 with
      | @ls b ws _ hb l => exact ⟨xs, b, rfl, g1, ⟨ws, hb, l⟩, g3.subset (List.mem_singleton.mpr rfl), h⟩
theorem n_addO (hk : X.K = G.K) (h1 : PE X e (tVar i)) (h2 : PE X c (tQ G W false me)) : PE X (.BinOp e .Add c pos) (tN G W (addO i me)) := by
  refine PE.imp (pe_op op_cat h1 h2) fun σ H Q h => ?_
  obtain ⟨C, n, env, us, h⟩ := h
  obtain ⟨xs, b, q, g1, ⟨ws, hb, l⟩, mb, h⟩ := own_at h
  refine ⟨.ref b, g1, C, n, env, us, (h.bind (R := rV G false)).imp ?_⟩
  rintro v2 H1 ⟨C1, n1, d, s1, r1, h1⟩
  have r1 := r1.unview
  cases r1 <;> try exact h1.no.elim
  rename_i a2 us2 ys f2 ha2 l2
  obtain ⟨hl, h1⟩ := h1.grd
  have hb1 : H1 b = some (.lst ws) := s1.kp b _ hb (fun _ z => nomatch z) (by simp) (h.ok.us b mb).2.1
  refine ⟨b, a2, ws, us2, rfl, rfl, hb1, ha2, by rw [l.length, l2.length]; exact Nat.le_trans hl (by decide), fun p hp => ?_⟩
  exact h1.retS (step_tup hp) (h1.ok.wf.tup hp) (rN_ls s1 h1.ok.wf hp ((l.nx s1.nx).append l2))
end
end Pu
set_option Elab.async false
set_option linter.all false
set_option maxRecDepth 100000
set_option maxHeartbeats 4000000
namespace Pu
open PySem L2 Stp NdefX LamX
open PyProof.Rows hiding St
def propN (cs : List Nat) (mf : List D → T O) : D → T O
  | .obj c fs => if c ∈ cs then (mf [.obj c fs]).noX else .fail
  | _ => .fail
def qPN (cs : List Nat) (mf : List D → T O) (mo : Env → T D) : Env → T O := fun env => (mo env).bind (propN cs mf)
section
variable {X : Cx} {G : GC} {W : WX} {k : Nat} {g : Addr} {f : Str} {fd : FuncData} {pos : Pos} {e : Expr} {mf : List D → T O} {mo : Env → T D}
end
end Pu
set_option Elab.async false
set_option linter.all false
set_option maxRecDepth 100000
set_option maxHeartbeats 4000000
namespace Pu
open PySem L2 Stp NdefX LamX
open PyProof.Rows hiding St
section
variable {X : Cx} {G : GC} {E : XK} {k c : Nat} {f A : Addr} {fd : FuncData} {ps : List Str} {x : Str} {p pos : Pos} {e : Expr} {es : List Expr} {ma : Env → T (List D)} {mi : Nat → List (Str × D) → List D → T (List (Str × D))}
end
section
variable {X : Cx} {G : GC} {W : WX} {k : Nat} {f : Addr} {fd : FuncData} {ps : List Str} {x : Str} {p pos : Pos} {mf : List D → T D}
end
section
variable {X : Cx} {G : GC} {W : WX} {me : Env → T O}
end
end Pu
set_option Elab.async false
set_option linter.all false
set_option maxRecDepth 100000
set_option maxHeartbeats 4000000
namespace Pu
open PySem L2 Stp NdefX LamX
open PyProof.Rows hiding St
section
variable {X : Cx} {G : GC} {W : WX} {b : Bool} {e : Expr} {st : Stmt}
theorem st_fail : PS X st (tS G W fun _ => .fail) := ⟨fun pins s σ H Q I h => by
  obtain ⟨C, n, env, us, h⟩ := h
  exact h.no.elim⟩
end
section
variable {prog : Program} {w : World} {A : Around} {E : Value → Shared → Prop} {s : Shared}
end
section
variable {X : Cx} {pins : List (Addr × Obj)} {σ : L2.St} {H : Hp} {s : Shared}
end
def aStarR (m : Env → T D) (k : Env → T (List D)) : Env → T (List D) := fun env => (m env).bind fun d => match d with
  | .int n => grd (0 ≤ n ∧ n ≤ 1000000) ((k env).bind fun ys => .ret (rgD 0 n ++ ys))
  | _ => .fail
section
variable {X : Cx} {G : GC} {W : WX} {b : Bool} {a : Expr} {es : List Expr} {m : Env → T D} {k : Env → T (List D)} {p ip pos : Pos}
end
def popS (i : Nat) (mi : Env → T D) (pt : Pt) : Env → T Fl := fun env => ownL i env fun xs => exS mi (fun d env => match d with
  | .int k => (match ixN xs.length k with
    | some j => (match xs[j]? with
      | some y => (match putP pt y (env.set i (some (.ls (xs.eraseIdx j)))) with
        | some env' => grd (xs.length ≤ big) (.ret (.nx env'))
        | none => .fail)
      | none => .fail)
    | none => .fail)
  | _ => .fail) env
theorem RepL.dropLast {G : GC} {C : Cf} {H : Hp} {vs : List V} {ds : List D} (r : RepL G C H vs ds) : RepL G C H vs.dropLast ds.dropLast := by
  rw [List.dropLast_eq_take, List.dropLast_eq_take, r.length]
  exact r.take _
section
variable {X : Cx} {G : GC} {W : WX} {i : Nat} {mi : Env → T D} {o ei tg : Expr} {ap cp pos : Pos} {pt : Pt}
end
theorem At.after {α β : Type} {G : GC} {W : WX} {R : RR α β} {σ : St} {env : Env} {us : List Addr} {C C1 : Cf} {n : Nat} {H H1 : Hp} {t : T α} {Q : β → Hp → Prop} (h : At G W R σ env us C n H t Q) (s : Step [] C H C1 H1) (w : Wf G C1 n H1) : At G W R σ env us C1 n H1 t Q :=
  ⟨h.ok.q s w, T.wp_mono h.wp (fun a m _ z C' H' v s' wf r => z C' H' v (s.trans s' (by simp)) wf r) (fun e m _ z C' H' cls dx s' wf r => z C' H' cls dx (s.trans s' (by simp)) wf r)⟩
theorem step_mut {C : Cf} {H : Hp} {a : Addr} {u u' : HO} (nf : ¬ C.F a) (hp : H a = some u) (h1 : ∀ xs, u ≠ .tup xs) (h2 : ∀ x y, u ≠ .frz x y) (h3 : ∀ φ, u = .ext φ → ¬ Keep a φ) : Step [a] C H C (upd H a u') := by
  have ne : ∀ b w, H b = some w → w ≠ u → upd H a u' b = some w := fun b w h d => by
    rw [upd_ne (fun z => d (by rw [z, hp] at h; exact (Option.some.inj h).symm))]
    exact h
  refine ⟨fun b w q _ nu _ => ?_, fun b w q => ?_, ⟨fun b w f h _ => ⟨f, by rw [upd_ne (fun z => nf (by rw [← z]; exact f))]; exact h⟩, (fun b xs h => ne b _ h fun z => h1 xs z.symm), (fun b w x h => ne b _ h fun z => h2 w x z.symm), (fun b φ h k => by
    by_cases e : b = a
    · rw [e] at h k; rw [hp] at h; exact absurd k (h3 φ (Option.some.inj h))
    · rw [upd_ne e]; exact h), fun _ h => h⟩, fun b z => .inl z, fun b z => .inl z, rfl⟩
  · rw [upd_ne (fun z => nu (by rw [z]; exact List.mem_singleton.mpr rfl))]
    exact q
  · by_cases hb : b = a
    · rw [hb]
      exact ⟨u', upd_same⟩
    · exact ⟨w, by rw [upd_ne hb]; exact q⟩
def oDisp1T (mk mv : Env → T D) : Env → T O := fun env => (mk env).bind fun k => (mv env).bind fun d => match k with
  | .tup ks => (match keysD ks with
    | some kk => .ret (.dt [(kk, d)])
    | none => .fail)
  | _ => .fail
section
variable {X : Cx} {G : GC} {W : WX} {e v : Expr} {mk mv : Env → T D} {pos : Pos}
end
def kD : Key → D
  | .inl i => .int i
  | .inr x => .str x
section
variable {G : GC} {C : Cf} {H : Hp}
end
section
variable {X : Cx} {G : GC} {W : WX} {b : Bool} {e : Expr} {m : Env → T D} {p pos : Pos}
end
section
variable {G : GC} {C : Cf} {H : Hp}
end
section
variable {X : Cx} {G : GC} {W : WX} {b : Bool} {e : Expr} {m : Env → T D} {p pos : Pos}
end
section
variable {X : Cx} {G : GC} {W : WX} {m1 m2 m3 m4 : Env → T O} {a1 a2 a3 a4 : Expr} {pos : Pos}
end
end Pu
set_option Elab.async false
set_option linter.all false
set_option maxRecDepth 100000
set_option maxHeartbeats 4000000
namespace Pu
open PySem L2 Stp NdefX LamX
open PyProof.Rows hiding St
/-- the list of lists of a slot: the slot's own, or its k-th item -/
def O.rows : Option Nat → O → Option (List (List D))
  | none, .ll xss => some xss
  | some k, .gl j _ xss => if j = k then some xss else none
  | _, _ => none
def O.setRows (xss' : List (List D)) : O → O
  | .ll _ => .ll xss'
  | .gl j ds _ => .gl j ds xss'
  | o => o
inductive PlaceR (H : Hp) : Option Nat → V → Addr → Prop
  | ll {L : Addr} : PlaceR H none (.ref L) L
  | gl {a L : Addr} {k : Nat} {vs : List V} : H a = some (.lst vs) → vs[k]? = some (.ref L) → PlaceR H (some k) (.ref a) L
theorem PlaceR.uniq {H : Hp} {kk : Option Nat} {v : V} {L M : Addr} (h : PlaceR H kk v L) (g : PlaceR H kk v M) : L = M := by
  cases h with
  | ll => cases g; rfl
  | gl h e =>
    cases g with
    | gl h2 e2 =>
      rw [h] at h2
      cases h2
      rw [e] at e2
      cases e2
      rfl
section
variable {G : GC} {C C' : Cf} {H H' : Hp}
theorem O.rows_gl {j k : Nat} {ds : List D} {xss : List (List D)} : (O.gl j ds xss).rows (some k) = if j = k then some xss else none := rfl
def preOf : Option Nat → V → List Addr
  | some _, .ref a => [a]
  | _, _ => []
theorem OwnR.rows {v : V} {o : O} {us1 : List Addr} {kk : Option Nat} {xss : List (List D)} (r : OwnR G C H v o us1) (e : o.rows kk = some xss) : ∃ L as, us1 = preOf kk v ++ L :: as ∧ PlaceR H kk v L ∧ H L = some (.lst (as.map V.ref)) ∧ OwnL G C H as xss ∧
    ∀ H' as' xss', Nx C C H H' → (∀ b ∈ preOf kk v, ∀ w, H b = some w → H' b = some w) → H' L = some (.lst (as'.map V.ref)) → OwnL G C H' as' xss' → OwnR G C H' v (o.setRows xss') (preOf kk v ++ L :: as') ∧ PlaceR H' kk v L := by
  cases r with
  | @ll a as dss h l =>
    cases kk with
    | some k => cases e
    | none =>
      cases e
      exact ⟨a, as, rfl, .ll, h, l, fun H' as' xss' nx _ hL l' => ⟨.ll hL l', .ll⟩⟩
  | @gl a b as k vs ds dss h ev l hb q =>
    cases kk with
    | none => cases e
    | some j =>
      rw [O.rows_gl] at e
      by_cases hj : k = j
      · rw [if_pos hj] at e
        cases e
        subst hj
        exact ⟨b, as, rfl, .gl h ev, hb, q, fun H' as' xss' nx kp hL l' => ⟨.gl (kp a (List.mem_singleton.mpr rfl) _ h) ev (l.nx nx) hL l', .gl (kp a (List.mem_singleton.mpr rfl) _ h) ev⟩⟩
      · rw [if_neg hj] at e; cases e
  | _ => cases kk <;> cases e
end
def spoilS (s r : Nat) (kk : Option Nat) (f : List D → List D) : Env → T Fl := fun env => match env[s]? with
  | some (some o) => (match o.rows kk with
    | some xss => if env.length ≤ r ∨ s = r then .fail else .ret (.nx ((env.set s (some (o.setRows (xss.map f)))).set r none))
    | none => .fail)
  | _ => .fail
section
variable {X : Cx} {G : GC} {W : WX} {s r : Nat} {kk : Option Nat} {f : List D → List D} {fv : List V → List V} {tg ie : Expr} {body : List Stmt} {te : TE} {pos : Pos}
end
theorem at_name {s : Nat} : ∀ (σ : St) (H : Hp) (Q : VK) (v : V) (L : Addr), σ[s]? = some (some v) → PlaceR H none v L → Q (.ref L) H → tVar s σ H Q := fun σ H Q v L f p q => by
  cases p
  exact ⟨_, f, q⟩
section
variable {X : Cx} {G : GC} {r : Nat} {o : Expr} {ap cp pos : Pos}
end
section
variable {G : GC} {C : Cf} {H : Hp}
/-- what a slot owns is taken out -/
theorem EnvR.take : ∀ {σ : St} {env : Env} {us : List Addr} {i : Nat} {o : O}, EnvR G C H σ env us → us.Nodup → env[i]? = some (some o) → ∃ v us1 us', σ[i]? = some (some v) ∧ OwnR G C H v o us1 ∧ us1.Sublist us ∧ EnvR G C H σ (env.set i none) us' ∧ us'.Sublist us ∧ ∀ a ∈ us', a ∉ us1
  | _, _, _, _, _, .nil, _, e => by simp at e
  | _, _, _, 0, _, .skip _, _, e => by simp at e
  | _, _, _, i + 1, o, .skip r, nd, e => by
    obtain ⟨v, us1, us', h1, h2, h3, h4, h5, h6⟩ := EnvR.take (i := i) (o := o) r nd (by simpa using e)
    exact ⟨v, us1, us', by simpa using h1, h2, h3, .skip h4, h5, h6⟩
  | _, _, _, 0, o, .has (v := v) (us1 := u1) (us := us) q r, nd, e => by
    simp at e
    subst e
    rw [List.nodup_append] at nd
    exact ⟨v, u1, us, rfl, q, List.sublist_append_left u1 us, .skip r, List.sublist_append_right u1 us, fun a m z => nd.2.2 a z a m rfl⟩
  | _, _, _, i + 1, o, .has (v := v) (us1 := u1) (us := us) q r, nd, e => by
    rw [List.nodup_append] at nd
    obtain ⟨v', us1, us', h1, h2, h3, h4, h5, h6⟩ := EnvR.take (i := i) (o := o) r nd.2.1 (by simpa using e)
    refine ⟨v', us1, u1 ++ us', by simpa using h1, h2, h3.trans (List.sublist_append_right u1 us), .has q h4, (List.Sublist.refl u1).append h5, fun a m z => ?_⟩
    rcases List.mem_append.mp m with m | m
    · exact nd.2.2 a m a (h3.subset z) rfl
    · exact h6 a m z
end
def rowAppS (s : Nat) (kk : Option Nat) (mo : Env → T O) : Env → T Fl := fun env => match env[s]? with
  | some (some o) => (match o.rows kk with
    | some xss => exS mo (fun o2 env => match o2 with
      | .ls ys => grd (xss.length ≤ big) (.ret (.nx (env.set s (some (o.setRows (xss ++ [ys]))))))
      | _ => .fail) env
    | none => .fail)
  | _ => .fail
section
variable {X : Cx} {G : GC} {W : WX} {s : Nat} {kk : Option Nat} {ie e : Expr} {te : TE} {mo : Env → T O} {ap cp pos : Pos}
theorem st_rowApp (hk : X.K = G.K) (hi : PE X ie te) (hte : ∀ σ H Q v L, σ[s]? = some (some v) → PlaceR H kk v L → Q (.ref L) H → te σ H Q) (he : PE X e (tN G W mo))
    (hbase : attributeBase ie "append" X.env (eval ie X.env) = eval ie X.env := by rfl)
    (hfew : ((backTo cp (starEach [e] X.env)).all (fun x => !x.1) && (backToKw cp (keywordEach [] X.env)).all (fun x => x.1.isSome) && decide (([e] : List Expr).length + ([] : List Keyword).length + (if ([] : List Keyword).isEmpty then 0 else 1) < 30)) = true := by rfl)
    (hline : (ap.endLine == cp.line) = true := by rfl) (hs : starEach [e] X.env = (false, eval e X.env) :: starEach [] X.env := by rfl) (hplain : (backTo cp (starEach [] X.env)).any (·.1) = false := by rfl)
    (hsw : swapsWith (.Call (.Attribute ie "append" ap) [e] [] cp) none pos.line X.env = pure false := by rfl) :
    PS X (.Expr (.Call (.Attribute ie "append" ap) [e] [] cp) pos) (tS G W (rowAppS s kk mo)) := by
  refine PS.imp (ps_expr (pe_bm PySem.F.plainAttrs_list PySem.F.slot_list_append PySem.F.type_list_append mt_append hi (pa_cons he pa_nil hs) hbase hfew hline hs hplain) hsw) fun E σ H h => ?_
  obtain ⟨C, n, env, us, h⟩ := h
  have hw := h.wp
  unfold rowAppS at hw
  cases e1 : env[s]? with
  | none => rw [e1] at hw; exact hw.elim
  | some oo =>
    cases oo with
    | none => rw [e1] at hw; exact hw.elim
    | some o =>
      rw [e1] at hw
      dsimp only at hw
      cases ex : o.rows kk with
      | none => rw [ex] at hw; exact hw.elim
      | some xss =>
        rw [ex] at hw
        dsimp only at hw
        obtain ⟨v, us1, us2, f0, ow, sl, r2, sl2, dj⟩ := h.ok.env.take h.ok.nd e1
        obtain ⟨L, as, eu, pl, hL, ol, reb⟩ := ow.rows ex
        refine hte σ H _ v L f0 pl ⟨.inl ⟨rfl, _, SqL.of hL⟩, C, n, env, us, (AtS.exprW (R := rN G H) (W := W) (E := E) ⟨h.ok, hw⟩).imp ?_⟩
        rintro x H1 ⟨C1, n1, o2, s1, r1, k1, w1⟩
        cases o2 with
        | ls ys =>
          obtain ⟨hz, w1⟩ := grd_wp w1
          obtain ⟨us3, ro, nd3, hu3⟩ := r1
          cases ro with
          | @ls p vs _ hp rl =>
            have mus : ∀ a ∈ us1, a ∈ us := fun a m => sl.subset m
            have keep : ∀ b ∈ us, ∀ w, H b = some w → H1 b = some w := fun b m w q => by
              obtain ⟨_, q2, w', q3, t⟩ := h.ok.us b m
              rw [q] at q3
              cases q3
              exact s1.kp b w q t (by simp) q2
            have hpn : H p = none := (hu3 p (List.mem_singleton.mpr rfl)).2.2.1
            have hpu : p ∉ us := fun z => by
              obtain ⟨_, _, w, q, _⟩ := h.ok.us p z
              rw [hpn] at q; cases q
            have hLu : L ∈ us := mus L (by rw [eu]; exact List.mem_append_right _ (List.mem_cons_self ..))
            have hL1 := keep L hLu _ hL
            have nd1 : us1.Nodup := h.ok.nd.sublist sl
            have nfL : ¬ C1.F L := (k1.us L hLu).1
            have st := step_mut (u' := .lst (as.map V.ref ++ [.ref p])) nfL hL1 (fun _ z => nomatch z) (fun _ _ z => nomatch z) (fun _ z => nomatch z)
            have hpL : p ≠ L := fun z => hpu (by rw [z]; exact hLu)
            refine ⟨L, as.map V.ref, .ref p, rfl, rfl, hL1, by rw [List.length_map, ol.len]; exact Nat.lt_of_le_of_lt hz (by decide), ?_⟩
            have nx2 : Nx C1 C1 H1 (upd H1 L (.lst (as.map V.ref ++ [.ref p]))) := st.nx
            have ow1 := ow.nx s1.nx s1.me fun a m w q => keep a (mus a m) w q
            obtain ⟨L2, as2, eu2, _, hL2, ol2, reb2⟩ := ow1.rows ex
            have eq2 : L = L2 ∧ as = as2 := by
              rw [eu] at eu2
              have := List.append_cancel_left eu2
              injection this with q1 q2
              exact ⟨q1, q2⟩
            obtain ⟨rfl, rfl⟩ := eq2
            rw [eu] at nd1
            obtain ⟨n1a, n1b, n1c⟩ := List.nodup_append.mp nd1
            obtain ⟨n2a, n2b⟩ := List.nodup_cons.mp n1b
            have ol1 : OwnL G C1 (upd H1 L (.lst (as.map V.ref ++ [.ref p]))) (as ++ [p]) (xss ++ [ys]) := by
              have a2 := ol2.nx nx2 fun b m w q => by rw [upd_ne (fun z => n2a (by rw [← z]; exact m))]; exact q
              exact OwnL.snoc (by rw [upd_ne hpL]; exact hp) (rl.nx nx2) a2
            obtain ⟨b1, _⟩ := reb2 (upd H1 L (.lst (as.map V.ref ++ [.ref p]))) (as ++ [p]) (xss ++ [ys]) nx2 (fun b m w q => by rw [upd_ne (fun z => n1c b m L (List.mem_cons_self ..) z)]; exact q) (by rw [upd_same, List.map_append]; rfl) ol1
            have hL1us : L ∈ us1 := by rw [eu]; exact List.mem_append_right _ (List.mem_cons_self ..)
            have r3 := r2.nx (s1.nx.trans nx2) s1.me fun a m w q => by
              rw [upd_ne (fun z => dj a m (by rw [z]; exact hL1us))]
              exact keep a (sl2.subset m) w q
            obtain ⟨us4, g1, g2, g3⟩ := r3.putO b1 s
            have mem1 : ∀ a ∈ preOf kk v ++ L :: (as ++ [p]), a ∈ us1 ∨ a = p := fun a m => by
              rw [eu]
              rcases List.mem_append.mp m with m | m
              · exact .inl (List.mem_append_left _ m)
              · rcases List.mem_cons.mp m with m | m
                · exact .inl (List.mem_append_right _ (by rw [m]; exact List.mem_cons_self ..))
                · rcases List.mem_append.mp m with m | m
                  · exact .inl (List.mem_append_right _ (List.mem_cons_of_mem _ m))
                  · exact .inr (List.mem_singleton.mp m)
            have hp1 : p ∉ us1 := fun z => hpu (mus p z)
            have ndn : ((preOf kk v ++ L :: (as ++ [p])) ++ us2).Nodup := by
              have e9 : preOf kk v ++ L :: (as ++ [p]) = us1 ++ [p] := by rw [eu]; simp
              rw [e9, List.nodup_append]
              refine ⟨?_, h.ok.nd.sublist sl2, fun a ma c mc z => ?_⟩
              · rw [List.nodup_append]
                exact ⟨h.ok.nd.sublist sl, by simp, fun a ma c mc z => hp1 (by rw [← List.mem_singleton.mp mc, ← z]; exact ma)⟩
              · subst z
                rcases List.mem_append.mp ma with ma | ma
                · exact dj a mc ma
                · exact hpu (by rw [← List.mem_singleton.mp ma]; exact sl2.subset mc)
            have eσ : σ.set s (some v) = σ := by
              obtain ⟨q1, q2⟩ := List.getElem?_eq_some_iff.mp f0
              rw [← q2]
              exact List.set_getElem_self q1
            rw [eσ, List.set_set] at g1
            obtain ⟨nfL', npL, wL, qL, tL⟩ := k1.us L hLu
            rw [hL1] at qL
            cases qL
            have okn : Ok G C1 n1 σ (env.set s (some (o.setRows (xss ++ [ys])))) us4 (upd H1 L (.lst (as.map V.ref ++ [.ref p]))) := by
              refine ⟨k1.wf.mut hL1 nfL npL tL (fun _ z => nomatch z), g1, g2 ndn, fun a m => ?_⟩
              have fromus : a ∈ us → ¬ C1.F a ∧ a ∉ C1.pa ∧ ∃ o, upd H1 L (.lst (as.map V.ref ++ [.ref p])) a = some o ∧ noTbl o := fun ma => by
                obtain ⟨q1, q2, w, q3, q4⟩ := k1.us a ma
                refine ⟨q1, q2, ?_⟩
                by_cases hb : a = L
                · rw [hb]
                  exact ⟨_, upd_same, fun _ z => nomatch z⟩
                · exact ⟨w, by rw [upd_ne hb]; exact q3, q4⟩
              rcases g3 a m with m | m
              · rcases mem1 a m with m | m
                · exact fromus (mus a m)
                · obtain ⟨q1, q2, _, w, q3, q4⟩ := hu3 a (by rw [m]; exact List.mem_singleton.mpr rfl)
                  exact ⟨q1, q2, w, by rw [upd_ne (by rw [m]; exact hpL)]; exact q3, q4⟩
              · exact fromus (sl2.subset m)
            refine w1 C1 _ us4 ((s1.up (us' := us) (by simp)).trans st fun x m => .inl (by rw [List.mem_singleton.mp m]; exact hLu)) (fun a m => ?_) σ okn
            rcases g3 a m with m | m
            · rcases mem1 a m with m | m
              · exact .inl (mus a m)
              · exact .inr (by rw [m]; exact hpn)
            · exact .inl (sl2.subset m)
        | _ => exact w1.elim
end
def oGl4 (m0 m1 : Env → T D) (mo : Env → T O) (m3 : Env → T D) : Env → T O := fun env => (m0 env).bind fun d0 => (m1 env).bind fun d1 => (mo env).bind fun o => (m3 env).bind fun d3 => match o with
  | .ll xss => .ret (.gl 2 [d0, d1, .non, d3] xss)
  | _ => .fail
section
variable {X : Cx} {G : GC} {W : WX} {e0 e1 e2 e3 : Expr} {m0 m1 m3 : Env → T D} {mo : Env → T O} {pos : Pos}
end
end Pu
set_option Elab.async false
set_option linter.all false
set_option maxRecDepth 100000
set_option maxHeartbeats 4000000
namespace Pu
open PySem L2 Stp NdefX LamX
open PyProof.Rows hiding St
structure Lk (as : List Addr) (H H2 : Hp) : Prop where
  off : ∀ a, a ∉ as → H2 a = H a
  on : ∀ a ∈ as, ∃ o vs, H a = some (.lst vs) ∧ H2 a = some (.frz o (.lst vs))
section
variable {X : Cx} {pins : List (Addr × Obj)} {σ : St} {s : Shared}
end
section
variable {G : GC} {C : Cf} {H H' : Hp}
theorem OwnL.lent (nx : Nx C C H H') : ∀ {as : List Addr} {dss : List (List D)}, OwnL G C H as dss → (∀ a ∈ as, ∀ vs, H a = some (.lst vs) → ∃ o, H' a = some (.frz o (.lst vs))) → RepL G C H' (as.map V.ref) (dss.map .bw)
  | _, _, .nil, _ => .nil
  | _, _, .cons h r l, k => .cons (.bw (k _ (List.mem_cons_self ..) _ h) (r.nx nx)) (OwnL.lent nx l fun a m => k a (List.mem_cons_of_mem _ m))
end
section
variable {G : GC} {C : Cf} {H H' : Hp} {n : Nat}
/-- the state on other ways of holding some lists -/
theorem Wf.hold (w : Wf G C n H) (h : ∀ a o, H a = some o → ∃ o', H' a = some o' ∧ (noTbl o → noTbl o')) (hp : ∀ a ∈ C.pa, H' a = H a) (he : ∀ a φ, H a = some (.ext φ) → H' a = some (.ext φ)) (ht : ∀ a ps, H a = some (.tbl ps) → H' a = some (.tbl ps)) : Wf G C n H' := by
  refine ⟨fun p c e => ?_, fun a f => ?_, fun p hp => ?_⟩
  · obtain ⟨cs, i, r, ⟨k1, k2, k3⟩, h4⟩ := w.pen p c e
    have m1 : p ∈ C.pa := by unfold Cf.pa; rw [e]; exact List.mem_cons_self ..
    have m2 : c ∈ C.pa := by unfold Cf.pa; rw [e]; exact List.mem_cons_of_mem _ (List.mem_cons_self ..)
    exact ⟨cs, i, r, ⟨by rw [hp p m1]; exact k1, by rw [hp c m2]; exact k2, k3⟩, h4⟩
  · obtain ⟨⟨o, e, t⟩, q⟩ := w.fz a f
    obtain ⟨o', e', t'⟩ := h a o e
    exact ⟨⟨o', e', t' t⟩, q⟩
  · obtain ⟨ps, h1, h2, h3⟩ := w.tab p hp
    refine ⟨ps, ht _ _ h1, h2, fun pos cv hc => ?_⟩
    obtain ⟨c, e1, e2⟩ := h3 pos cv hc
    exact ⟨c, e1, he _ _ e2⟩
end
end Pu
set_option Elab.async false
set_option linter.all false
set_option maxRecDepth 100000
set_option maxHeartbeats 4000000
namespace Pu
open PySem L2 Stp NdefX LamX
open PyProof.Rows hiding St
section
variable {X : Cx} {G : GC} {W : WX} {b1 : Bool} {x : Str} {e e2 : Expr} {p pos : Pos} {m m2 : Env → T D}
end
section
variable {X : Cx} {G : GC} {W : WX} {i : Nat} {mi me : Env → T D} {o ei e : Expr} {ap cp pos : Pos}
end
end Pu
set_option Elab.async false
set_option linter.all false
set_option maxRecDepth 100000
set_option maxHeartbeats 4000000
namespace Pu
open PySem L2 Stp NdefX LamX
open PyProof.Rows hiding St
section
variable {X : Cx} {G : GC} {W : WX} {a c : Expr} {ma mb : Env → T D} {p pos ip p2 : Pos}
end
section
variable {X : Cx} {G : GC} {W : WX} {i j : Nat} {mi : Env → T D} {o o2 ei : Expr} {ap cp ap2 cp2 pos : Pos}
end
end Pu
set_option Elab.async false
set_option linter.all false
set_option maxRecDepth 100000
set_option maxHeartbeats 4000000
namespace Pu
open PySem L2 Stp NdefX LamX
open PyProof.Rows hiding St
section
variable {X : Cx} {G : GC} {W : WX} {s r i2 : Nat} {mi m2 m3 mj : Env → T D} {o ei e2 e3 ej : Expr} {xr x2 : Str} {p1 p2 p3 sp1 sp3 pos1 pos2 pos3 : Pos}
end
section
variable {X : Cx} {G : GC} {W : WX} {s r : Nat} {o e : Expr} {ap cp pos : Pos}
end
theorem n_ll0 {X : Cx} {G : GC} {W : WX} {pos : Pos} : PE X (.List [] pos) (tN G W fun _ => .ret (.ll [])) := by
  refine PE.imp (pe_lst pa_nil) fun σ H Q k => ?_
  obtain ⟨C, n, env, us, k⟩ := k
  refine ⟨by decide, fun p hp => k.retS (step_tup hp) (k.ok.wf.tup hp) ⟨[p], .ll upd_same .nil, by simp, fun a m => ?_⟩⟩
  rw [List.mem_singleton.mp m]
  refine ⟨fun z => ?_, k.ok.wf.pne hp, hp, _, upd_same, fun _ z => nomatch z⟩
  obtain ⟨⟨o, e, _⟩, _⟩ := k.ok.wf.fz p z
  rw [hp] at e
  cases e
end Pu
set_option Elab.async false
set_option linter.all false
set_option maxRecDepth 100000
set_option maxHeartbeats 4000000
namespace Pu
open PySem L2 Stp NdefX LamX
open PyProof.Rows hiding St
section
variable {X : Cx}
end
section
variable {X : Cx} {G : GC} {W : WX} {b : Bool} {e : Expr} {m : Env → T D} {p pos : Pos}
end
end Pu
set_option Elab.async false
set_option linter.all false
set_option maxRecDepth 100000
set_option maxHeartbeats 2000000
namespace Pu
open PySem L2 Stp NdefX LamX
open PyProof.Rows hiding St lexLt
/-- a tuple of these ints -/
def IsW (h : Heap) (v : Value) (ns : List Int) : Prop := ∃ a o xs n, v = .ref a ∧ h.get? a = some o ∧ o.cls = .type "tuple" ∧ o.data = .seq xs n ∧ IntsAre xs.toList ns
theorem IsW.keeps {h h' : Heap} {v : Value} {ns : List Int} (p : IsW h v ns) (k : ∀ b o, h.get? b = some o → o.cls = .type "tuple" → h'.get? b = some o) : IsW h' v ns := by
  obtain ⟨a, o, xs, n, e, ho, hc, hd, hx⟩ := p
  exact ⟨a, o, xs, n, e, k _ _ ho hc, hc, hd, hx⟩
section
variable {prog : Program} {w : World} {A : Around} {s : Shared}
end
end Pu
set_option Elab.async false
set_option linter.all false
set_option maxRecDepth 100000
set_option maxHeartbeats 4000000
namespace Pu
open PySem L2 Stp NdefX LamX
open PyProof.Rows hiding St lexLt
section
variable {α : Type} {lt : α → α → Bool}
end
section
variable {X : Cx}
end
section
variable {G : GC} {C : Cf} {H : Hp}
end
section
variable {X : Cx} {G : GC} {W : WX} {b : Bool} {e : Expr} {m : Env → T D} {p pos : Pos}
end
end Pu
set_option Elab.async false
set_option linter.all false
set_option maxRecDepth 100000
set_option maxHeartbeats 4000000
namespace Pu
open PySem L2 Stp NdefX LamX
open PyProof.Rows hiding St
section
variable {X : Cx} {G : GC} {W : WX} {e0 e1 : Expr} {m0 : Env → T D} {m1 mo : Env → T O} {p pos : Pos} {k2 : ExprCtx}
end
section
variable {X : Cx} {G : GC} {W : WX} {a b : Expr} {m1 m2 : Env → T O} {m : Env → T Fl} {i : Nat} {x : Str} {px pt pos : Pos} {body : List Stmt}
end
end Pu
set_option Elab.async false
set_option linter.all false
set_option maxRecDepth 100000
set_option maxHeartbeats 4000000
namespace Pu
open PySem L2 Stp NdefX LamX
open PyProof.Rows hiding St
section
variable {X : Cx} {G : GC} {W : WX} {e : Expr} {m : Env → T D} {p pos tpos : Pos} {elts : List Expr} {kk : Nat}
end
section
variable {X : Cx} {G : GC} {W : WX} {e v : Expr} {mk mv : Env → T D} {pos : Pos}
end
def augI (i : Nat) (f : Int → Int → Int) (me : Env → T D) : Env → T Fl := fun env => match env[i]? with
  | some (some (.fz (.int a))) => exS me (fun d env => match d with
    | .int b => .ret (.nx (env.set i (some (.fz (.int (f a b))))))
    | _ => .fail) env
  | _ => .fail
section
variable {X : Cx} {G : GC} {W : WX} {i : Nat} {x : Str} {e : Expr} {me : Env → T D} {op : Operator} {f : Int → Int → Int} {px pos : Pos}
end
@[simp] theorem augI_def {i : Nat} {f : Int → Int → Int} {me : Env → T D} {env : Env} {a : Int} (h : env[i]? = some (some (.fz (.int a)))) : augI i f me env = (me env).bindX (fun d => match d with
    | .int b => .ret (.nx (env.set i (some (.fz (.int (f a b))))))
    | _ => .fail) fun e => .ret (.ex e env) := by
  unfold augI
  rw [h]
  rfl
section
variable {X : Cx} {G : GC} {W : WX} {i : Nat} {o ei e : Expr} {mi me : Env → T D} {sp pos : Pos}
end
end Pu
set_option Elab.async false
set_option linter.all false
set_option maxRecDepth 100000
set_option maxHeartbeats 4000000
namespace PySem
open Sem (wp)
section
variable {prog : Program} {w : World} {A : Around} {E : Value → Shared → Prop} {s : Shared}
end
end PySem
namespace PySem
open Sem (wp)
section
variable {prog : Program} {w : World} {A : Around} {E : Value → Shared → Prop} {s : Shared}
end
namespace F
end F
section
variable {prog : Program} {w : World} {A : Around} {E : Value → Shared → Prop} {s : Shared}
end
end PySem
set_option Elab.async false
set_option linter.all false
set_option maxRecDepth 100000
set_option maxHeartbeats 4000000
namespace L2
open PySem
open PyProof.Rows hiding St
end L2
namespace Pu
open PySem L2 Stp NdefX LamX
open PyProof.Rows hiding St
section
variable {X : Cx} {G : GC} {W : WX} {e e2 : Expr} {ms : Env → T (List D)} {p pos tpos kp cp : Pos} {cj : Nat} {elts : List Expr} {kk : Nat}
end
end Pu
set_option Elab.async false
set_option linter.all false
set_option maxRecDepth 100000
set_option maxHeartbeats 4000000
namespace Pu
open PySem L2 Stp NdefX LamX
open PyProof.Rows hiding St
section
variable {X : Cx} {G : GC} {W : WX} {e e2 e3 : Expr} {m m2 m3 : Env → T D} {p pos : Pos}
end
end Pu
set_option Elab.async false
set_option linter.all false
set_option maxRecDepth 100000
set_option maxHeartbeats 4000000
namespace PySem
open Sem (wp)
section
variable {prog : Program} {w : World} {A : Around} {E : Value → Shared → Prop} {s : Shared}
end
end PySem
namespace L2
open PySem
open PyProof.Rows hiding St
end L2
namespace Pu
open PySem L2 Stp NdefX LamX
open PyProof.Rows hiding St
section
variable {X : Cx} {G : GC} {W : WX} {e : Expr} {m : Env → T D} {p pos tpos : Pos} {elts : List Expr} {kk : Nat}
end
end Pu
set_option Elab.async false
set_option linter.all false
set_option maxRecDepth 100000
set_option maxHeartbeats 4000000
namespace Pu
open PySem L2 Stp NdefX LamX
open PyProof.Rows hiding St
section
variable {X : Cx} {G : GC} {W : WX} {s r : Nat} {kk : Option Nat} {f : List D → List D} {fv : List V → List V} {tg ie : Expr} {body : List Stmt} {te : TE} {pos : Pos}
end
section
variable {X : Cx} {G : GC} {r : Nat} {o : Expr} {ap cp pos p2 : Pos} {j : Nat}
end
section
variable {X : Cx} {G : GC} {W : WX} {i : Nat} {o : Expr} {ap cp pos p2 : Pos} {j : Nat}
end
section
variable {X : Cx} {G : GC} {W : WX} {i j : Nat} {mo : Env → T O} {tg e : Expr} {pos : Pos}
end
end Pu
set_option Elab.async false
set_option linter.all false
set_option maxRecDepth 100000
set_option maxHeartbeats 4000000
namespace Pu
open PySem L2 Stp NdefX LamX
open PyProof.Rows hiding St
section
variable {X : Cx} {G : GC} {W : WX} {i : Nat} {o tg : Expr} {ap cp pos : Pos} {pt : Pt}
end
section
variable {X : Cx} {G : GC} {W : WX} {ma mb : Env → T D} {a c : Expr} {pos : Pos}
end
end Pu
set_option Elab.async false
set_option linter.all false
set_option maxRecDepth 100000
set_option maxHeartbeats 4000000
namespace Pu
open PySem L2 Stp NdefX LamX
open PyProof.Rows hiding St
section
variable {X : Cx} {G : GC} {W : WX} {i : Nat} {me : Env → T D} {p pos : Pos}
end
section
variable {X : Cx} {G : GC} {W : WX} {i k : Nat} {o : Expr} {ap cp pos p2 : Pos} {j : Nat}
end
end Pu
set_option Elab.async false
set_option linter.all false
set_option maxRecDepth 100000
set_option maxHeartbeats 400000
namespace Pu
open PySem L2 Stp NdefX LamX
open PyProof.Rows hiding St
section
variable {X : Cx} {tg : Expr} {G : GC} {W : WX} {ma mb mc : Env → T D} {a b c : Expr}
end
end Pu
set_option Elab.async false
set_option linter.all false
set_option maxRecDepth 100000
set_option maxHeartbeats 400000
namespace PySem.W
open PySem PySem.SeqAt PyProof.Rows
section
variable {prog : Program} {w : World} {A : Around} {E : Value → Shared → Prop} {s : Shared}
end
end PySem.W
namespace Pu
open PySem L2 Stp NdefX LamX PySem.W
open PyProof.Rows hiding St
section
variable {X : Cx} {G : GC} {W : WX} {e : Expr} {m : Env → T D} {p pos : Pos}
end
end Pu
set_option Elab.async false
set_option linter.all false
set_option maxRecDepth 100000
set_option maxHeartbeats 400000
namespace Pu
open PySem L2 Stp NdefX LamX
open PyProof.Rows hiding St
section
variable {X : Cx}
end
theorem RepK.keys {G : GC} {C : Cf} {H : Hp} : ∀ {vs : List (Key × V)} {ds : List (Key × D)}, RepK G C H vs ds → vs.map (·.1) = ds.map (·.1)
  | _, _, .nil => rfl
  | _, _, .cons _ l => by rw [List.map_cons, List.map_cons, RepK.keys l]
section
variable {X : Cx} {G : GC} {W : WX} {b : Bool} {e : Expr} {m : Env → T D} {p pos : Pos}
end
end Pu
set_option Elab.async false
set_option linter.all false
set_option maxRecDepth 100000
set_option maxHeartbeats 1000000
namespace Pu
open PySem L2 Stp NdefX LamX
open PyProof.Rows hiding St
def putFO (f : Str) (d : FO) : List (Str × FO) → List (Str × FO)
  | [] => [(f, d)]
  | (g, x) :: r => if g = f then (g, d) :: r else (g, x) :: putFO f d r
def toFO : O → Option FO
  | .fz d => some (.fz d)
  | .ls xs => some (.ls xs)
  | .dk k => some (.dk k)
  | .dt k => some (.dt k)
  | _ => none
def O.objF : O → Option (Nat × List (Str × FO))
  | .mo c fs => some (c, fs)
  | .ob c fs => some (c, fs)
  | _ => none
def O.putFs (fs' : List (Str × FO)) : O → O
  | .mo c _ => .mo c fs'
  | .ob c _ => .ob c fs'
  | o => o
section
variable {G : GC} {C : Cf} {H : Hp}
theorem OwnF.len : ∀ {vs : List (Str × V)} {fs : List (Str × FO)} {us : List Addr}, OwnF G C H vs fs us → vs.length = fs.length
  | _, _, _, .nil => rfl
  | _, _, _, .fz _ l => congrArg (· + 1) l.len
  | _, _, _, .ls _ _ l => congrArg (· + 1) l.len
  | _, _, _, .dk _ _ l => congrArg (· + 1) l.len
  | _, _, _, .dt _ _ l => congrArg (· + 1) l.len
/-- the first field apart -/
theorem OwnF.inv {k : Str} {x : FO} : ∀ {vs : List (Str × V)} {fs : List (Str × FO)} {us : List Addr}, OwnF G C H vs ((k, x) :: fs) us → ∃ v vs' u1 u2, vs = (k, v) :: vs' ∧ us = u1 ++ u2 ∧ OwnF G C H [(k, v)] [(k, x)] u1 ∧ OwnF G C H vs' fs u2
  | _, _, _, .fz r l => ⟨_, _, [], _, rfl, rfl, .fz r .nil, l⟩
  | _, _, _, .ls (a := a) h r l => ⟨_, _, [a], _, rfl, rfl, .ls h r .nil, l⟩
  | _, _, _, .dk (a := a) h r l => ⟨_, _, [a], _, rfl, rfl, .dk h r .nil, l⟩
  | _, _, _, .dt (a := a) h r l => ⟨_, _, [a], _, rfl, rfl, .dt h r .nil, l⟩
theorem OwnF.join {k : Str} {v : V} {x : FO} {u1 : List Addr} (h : OwnF G C H [(k, v)] [(k, x)] u1) {vs : List (Str × V)} {fs : List (Str × FO)} {us : List Addr} (l : OwnF G C H vs fs us) : OwnF G C H ((k, v) :: vs) ((k, x) :: fs) (u1 ++ us) := by
  cases h with
  | fz r z => cases z; exact .fz r l
  | ls h r z => cases z; exact .ls h r l
  | dk h r z => cases z; exact .dk h r l
  | dt h r z => cases z; exact .dt h r l
theorem OwnF.of {k : Str} {v : V} {o : O} {x : FO} {us1 : List Addr} (r : OwnR G C H v o us1) (e : toFO o = some x) : OwnF G C H [(k, v)] [(k, x)] us1 := by
  cases r <;> first | (cases e; done) | skip
  case fz r => cases e; exact .fz r .nil
  case ls h r => cases e; exact .ls h r .nil
  case dk h r => cases e; exact .dk h r .nil
  case dt h r => cases e; exact .dt h r .nil
theorem OwnF.none (f : Str) : ∀ {fs : List (Str × FO)} {vs : List (Str × V)} {us : List Addr}, OwnF G C H vs fs us → fs.lookup f = none → vs.lookup f = none
  | [], _, _, l, _ => by cases l; rfl
  | (k, x) :: fs, _, _, l, e => by
    obtain ⟨v, vs', u1, u2, rfl, rfl, _, l2⟩ := l.inv
    rw [List.lookup_cons] at e ⊢
    cases h : f == k with
    | true => rw [h] at e; cases e
    | false => rw [h] at e; exact OwnF.none f l2 e
theorem OwnF.look (f : Str) {x : FO} : ∀ {fs : List (Str × FO)} {vs : List (Str × V)} {us : List Addr}, OwnF G C H vs fs us → fs.lookup f = some x → ∃ v u1, vs.lookup f = some v ∧ OwnF G C H [(f, v)] [(f, x)] u1 ∧ ∀ a ∈ u1, a ∈ us
  | [], _, _, _, e => by cases e
  | (k, y) :: fs, _, _, l, e => by
    obtain ⟨v, vs', u1, u2, rfl, rfl, l1, l2⟩ := l.inv
    rw [List.lookup_cons] at e ⊢
    cases h : f == k with
    | true =>
      rw [h] at e
      cases e
      have ek : f = k := by simpa using h
      subst ek
      exact ⟨v, u1, rfl, l1, fun a m => List.mem_append_left _ m⟩
    | false =>
      rw [h] at e
      obtain ⟨w, u3, a1, a2, a3⟩ := OwnF.look f l2 e
      exact ⟨w, u3, a1, a2, fun a m => List.mem_append_right _ (a3 a m)⟩
theorem OwnF.put (f : Str) {v : V} {x : FO} {us1 : List Addr} (h : OwnF G C H [(f, v)] [(f, x)] us1) : ∀ {fs : List (Str × FO)} {vs : List (Str × V)} {us : List Addr}, OwnF G C H vs fs us → (us1 ++ us).Nodup → ∃ us', OwnF G C H (putF f v vs) (putFO f x fs) us' ∧ us'.Nodup ∧ ∀ a ∈ us', a ∈ us1 ∨ a ∈ us
  | [], _, _, l, nd => by
    cases l
    exact ⟨us1, h, by simpa using nd, fun a m => .inl m⟩
  | (k, y) :: fs, _, _, l, nd => by
    obtain ⟨w, vs', u1, u2, rfl, rfl, l1, l2⟩ := l.inv
    unfold putF putFO
    rw [List.nodup_append] at nd
    obtain ⟨n1, n2, n3⟩ := nd
    have n2' := List.nodup_append.mp n2
    by_cases e : k = f
    · subst e
      rw [if_pos rfl, if_pos rfl]
      refine ⟨us1 ++ u2, h.join l2, List.nodup_append.mpr ⟨n1, n2'.2.1, fun a ha b hb => n3 a ha b (List.mem_append_right _ hb)⟩, fun a m => ?_⟩
      exact (List.mem_append.mp m).imp id fun z => List.mem_append_right _ z
    · rw [if_neg e, if_neg e]
      obtain ⟨us', p1, p2, p3⟩ := OwnF.put f h l2 (List.nodup_append.mpr ⟨n1, n2'.2.1, fun a ha b hb => n3 a ha b (List.mem_append_right _ hb)⟩)
      refine ⟨u1 ++ us', l1.join p1, List.nodup_append.mpr ⟨n2'.1, p2, fun a ha b hb => ?_⟩, fun a m => ?_⟩
      · rcases p3 b hb with z | z
        · exact fun q => n3 b z a (List.mem_append_left _ ha) q.symm
        · exact n2'.2.2 a ha b z
      · rcases List.mem_append.mp m with z | z
        · exact .inr (List.mem_append_left _ z)
        · exact (p3 a z).imp id fun z => List.mem_append_right _ z
/-- the list of a field is changed in its place -/
theorem OwnF.setL (f : Str) {H' : Hp} {xs ys : List D} {a : Addr} {ws : List V} (nx : Nx C C H H') (ha : H' a = some (.lst ws)) (kp : ∀ b, b ≠ a → ∀ u, H b = some u → H' b = some u) (r : RepL G C H' ws ys) : ∀ {fs : List (Str × FO)} {vs : List (Str × V)} {us : List Addr}, OwnF G C H vs fs us → us.Nodup → fs.lookup f = some (.ls xs) → vs.lookup f = some (.ref a) → OwnF G C H' vs (putFO f (.ls ys) fs) us
  | [], _, _, _, _, e, _ => by cases e
  | (k, y) :: fs, _, _, l, nd, e, e2 => by
    obtain ⟨w, vs', u1, u2, rfl, rfl, l1, l2⟩ := l.inv
    rw [List.lookup_cons] at e e2
    rw [List.nodup_append] at nd
    unfold putFO
    cases h : f == k with
    | true =>
      rw [h] at e e2
      have ek : f = k := by simpa using h
      subst ek
      cases e
      cases e2
      rw [if_pos rfl]
      cases l1 with
      | ls h1 r1 z =>
        cases z
        exact .ls ha r (l2.nx nx fun b m u q => kp b (fun z => nd.2.2 a (List.mem_singleton.mpr rfl) b m z.symm) u q)
    | false =>
      rw [h] at e e2
      have ek : ¬ k = f := fun z => by rw [z] at h; simp at h
      have e2 : List.lookup f vs' = some (.ref a) := e2
      have e : List.lookup f fs = some (.ls xs) := e
      rw [if_neg ek]
      have hm : a ∈ u2 := by
        obtain ⟨v, u3, q1, q2, q3⟩ := OwnF.look f l2 e
        rw [e2] at q1
        cases q1
        cases q2
        exact q3 _ (List.mem_cons_self ..)
      exact (l1.nx nx fun b m u q => kp b (fun z => nd.2.2 b m a hm z) u q).join (OwnF.setL f nx ha kp r l2 nd.2.1 e e2)
theorem OwnF.sub : ∀ {fs : List (Str × FO)} {vs : List (Str × V)} {us : List Addr}, OwnF G C H vs fs us → ∀ a ∈ us, ∃ u, H a = some u ∧ noTbl u
  | [], _, _, l, a, m => by cases l; cases m
  | (k, y) :: fs, _, _, l, a, m => by
    obtain ⟨w, vs', u1, u2, rfl, rfl, l1, l2⟩ := l.inv
    rcases List.mem_append.mp m with m | m
    · cases l1 with
      | fz r z => cases z; cases m
      | ls h r z => cases z; rw [List.mem_singleton.mp m]; exact ⟨_, h, fun _ z => by cases z⟩
      | dk h r z => cases z; rw [List.mem_singleton.mp m]; exact ⟨_, h, fun _ z => by cases z⟩
      | dt h r z => cases z; rw [List.mem_singleton.mp m]; exact ⟨_, h, fun _ z => by cases z⟩
    · exact l2.sub a m
theorem OwnR.obj {v : V} {o : O} {us : List Addr} {c : Nat} {fs : List (Str × FO)} (r : OwnR G C H v o us) (e : o.objF = some (c, fs)) : ∃ a A dx vs us2, v = .ref a ∧ us = a :: us2 ∧ H a = some (.ins A dx vs) ∧ G.cA c = some A ∧ OwnF G C H vs fs us2 ∧
    ∀ C' H' vs' fs' us2', C'.me = C.me → H' a = some (.ins A dx vs') → OwnF G C' H' vs' fs' us2' → OwnR G C' H' v (o.putFs fs') (a :: us2') := by
  cases r <;> first | (cases e; done) | skip
  case ob a A dx c' vs fs' us hp hA l => cases e; exact ⟨a, A, dx, vs, us, rfl, rfl, hp, hA, l, fun C' H' vs' fs' us2' hm h q => .ob h hA q⟩
  case mo a A dx c' vs fs' us em hp hA l => cases e; exact ⟨a, A, dx, vs, us, rfl, rfl, hp, hA, l, fun C' H' vs' fs' us2' hm h q => .mo (hm.trans em) h hA q⟩
end
end Pu
set_option Elab.async false
set_option linter.all false
set_option maxRecDepth 100000
set_option maxHeartbeats 1000000
namespace Pu
open PySem L2 Stp NdefX LamX
open PyProof.Rows hiding St
section
variable {X : Cx} {G : GC} {W : WX} {cs : List Nat} {i : Nat} {f : Str} {m : Env → T D} {mo : Env → T O} {o e : Expr} {pos pos' ap cp : Pos}
end
end Pu
set_option Elab.async false
set_option linter.all false
set_option maxRecDepth 100000
set_option maxHeartbeats 1000000
namespace Pu
open PySem L2 Stp NdefX LamX
open PyProof.Rows hiding St
section
variable {G : GC} {H : Hp}
end
section
variable {P : Program} {w : World} {K : PySem.W.Frag} {mg : Str → Option Value} {base : Heap} {G : GC}
end
section
variable {X : Cx} {G : GC} {W : WX} {k c i : Nat} {f A : Addr} {fd : FuncData} {ps : List Str} {m : Str} {pos apos spos : Pos} {e o : Expr} {es : List Expr} {ma : Env → T (List D)} {mf : Nat → List (Str × FO) → List D → T (D × List (Str × FO))}
end
section
variable {X : Cx} {G : GC} {E : XK} {k c : Nat} {f A : Addr} {fd : FuncData} {ps : List Str} {x : Str} {p pos : Pos} {e : Expr} {es : List Expr} {ma : Env → T (List D)} {mi : Nat → List (Str × FO) → List D → T (D × List (Str × FO))}
end
end Pu
set_option Elab.async false
set_option linter.all false
set_option maxRecDepth 100000
set_option maxHeartbeats 4000000
namespace Pu
open PySem L2 Stp NdefX LamX
open PyProof.Rows hiding St
section
variable {P : Program} {w : World} {K : PySem.W.Frag} {mg : Str → Option Value} {base : Heap} {G : GC} {k : Nat} {f fP : Addr} {fd fdP : FuncData} {N : List Str} {m : Env → T Fl}
end
end Pu
set_option Elab.async false
set_option linter.all false
set_option maxRecDepth 100000
set_option maxHeartbeats 2000000
namespace Pu
open PySem L2 Stp NdefX LamX
open PyProof.Rows hiding St
abbrev NK := NestedKey
/-- what a key is in the heap -/
def KeyH (X : Cx) (H : Hp) (x : V) (k : NK) : Prop := ∀ pins σ s u, L2.Inv X pins σ H s → RelV x u → Mk.KeyIs s.heap k u
section
variable {X : Cx} {G : GC} {C : Cf} {H : Hp} {pins : List (Addr × Obj)} {σ : L2.St} {s : Shared}
mutual
theorem Rep.nest (hk : X.K = G.K) (I : L2.Inv X pins σ H s) : ∀ {v : V} {d : D} {k : NK} {u : Value}, Rep G C H v d → keyN d = some k → RelV v u → NestedIs s.heap k u
  | _, _, _, _, .non, e, r => by cases e; cases r; exact .none
  | _, _, _, _, .bl b, e, r => by cases e; cases r; exact .bool rfl
  | _, _, _, _, .int i, e, r => by cases e; obtain ⟨t, rfl⟩ := r; exact .int i t
  | _, _, _, _, .str x, e, r => by cases e; obtain ⟨t, rfl⟩ := r; exact .text x t
  | _, _, _, _, .tup h l, e, r => by
    cases r
    obtain ⟨its, rv, ⟨o, e2, hc, n2, hd⟩, hz⟩ := I.tuple (.inl (.inl h))
    rw [keyN, Option.map_eq_some_iff] at e
    obtain ⟨ks, e, rfl⟩ := e
    exact .tup e2 hc hd (RepL.nest hk I l e rv)
  | _, _, _, _, .wt h l, e, r => by
    cases r
    obtain ⟨its, rv, ⟨o, e2, hc, n2, hd⟩, hz⟩ := I.tuple (by rw [hk]; exact sqT_wt h)
    rw [keyN, Option.map_eq_some_iff] at e
    obtain ⟨ks, e, rfl⟩ := e
    exact .tup e2 hc hd (RepL.nest hk I l e rv)
  | _, _, _, _, .lst _ _ _, e, _ => by simp [keyN] at e
  | _, _, _, _, .dK _ _ _, e, _ => by simp [keyN] at e
  | _, _, _, _, .dT _ _ _, e, _ => by simp [keyN] at e
  | _, _, _, _, .dN _ _ _ _, e, _ => by simp [keyN] at e
  | _, _, _, _, .obj _ _ _ _, e, _ => by simp [keyN] at e
  | _, _, _, _, .exc _ _, e, _ => by simp [keyN] at e
  | _, _, _, _, .fn _ _, e, _ => by simp [keyN] at e
  | _, _, _, _, .ty _, e, _ => by simp [keyN] at e
  | _, _, _, _, .cls _, e, _ => by simp [keyN] at e
  | _, _, _, _, .pen _, e, _ => by simp [keyN] at e
  | _, _, _, _, .scr _, e, _ => by simp [keyN] at e
  | _, _, _, _, .bw _ _, e, _ => by simp [keyN] at e
  | _, _, _, _, .rf _, e, _ => by simp [keyN] at e
theorem RepL.nest (hk : X.K = G.K) (I : L2.Inv X pins σ H s) : ∀ {vs : List V} {ds : List D} {ks : List NK} {us : List Value}, RepL G C H vs ds → keyNL ds = some ks → Vals vs us → NestedAll s.heap ks us
  | _, _, _, _, .nil, e, r => by cases e; cases r; exact .nil
  | _, _, _, _, .cons (d := d) (ds := ds) h l, e, r => by
    cases r with
    | cons r1 r2 =>
      rw [keyNL] at e
      cases e1 : keyN d with
      | none => rw [e1] at e; cases e
      | some k =>
        cases e2 : keyNL ds with
        | none => rw [e1, e2] at e; cases e
        | some ks =>
          rw [e1, e2] at e
          cases e
          exact .cons (Rep.nest hk I h e1 r1) (RepL.nest hk I l e2 r2)
end
theorem Rep.keyH (hk : X.K = G.K) {v : V} {d : D} {k : NK} (r : Rep G C H v d) (e : nkD d = some k) : KeyH X H v k := fun pins σ s u I ru => by
  obtain ⟨e1, e2, e3⟩ := nkD_some e
  exact ⟨Rep.nest hk I r e1 ru, e2, e3⟩
theorem RepN.keys (hk : X.K = G.K) : ∀ {vs : List (NK × V × V)} {ds : List (D × D)}, RepN G C H vs ds → ∀ x ∈ vs, KeyH X H x.2.1 x.1
  | _, _, .nil => fun _ m => nomatch m
  | _, _, .cons e r _ l => fun x m => by
    rcases List.mem_cons.mp m with rfl | m
    · exact r.keyH hk e
    · exact RepN.keys hk l x m
end
abbrev R3 : NK × V × V → NK × Value × Value → Prop := fun p q => p.1 = q.1 ∧ RelV p.2.1 q.2.1 ∧ RelV p.2.2 q.2.2
theorem pair_at {α β : Type} {R : α → β → Prop} {xs : List α} {ys : List β} (r : Paired R xs ys) : ∀ {j : Nat} {x : α}, xs[j]? = some x → ∃ y, ys[j]? = some y ∧ R x y := by
  induction r with
  | nil => intro j x e; simp at e
  | cons h t ih =>
    intro j x e
    cases j with
    | zero => simp at e; subst e; exact ⟨_, rfl, h⟩
    | succ j =>
      obtain ⟨y, e1, e2⟩ := ih (by simpa using e)
      exact ⟨y, by simpa using e1, e2⟩
theorem pair_at2 {α β : Type} {R : α → β → Prop} {xs : List α} {ys : List β} (r : Paired R xs ys) : ∀ {j : Nat} {y : β}, ys[j]? = some y → ∃ x, xs[j]? = some x ∧ R x y := by
  induction r with
  | nil => intro j x e; simp at e
  | cons h t ih =>
    intro j x e
    cases j with
    | zero => simp at e; subst e; exact ⟨_, rfl, h⟩
    | succ j =>
      obtain ⟨y, e1, e2⟩ := ih (by simpa using e)
      exact ⟨y, by simpa using e1, e2⟩
theorem pair_len {α β : Type} {R : α → β → Prop} {xs : List α} {ys : List β} (r : Paired R xs ys) : xs.length = ys.length := by
  induction r with
  | nil => rfl
  | cons _ _ ih => simp [ih]
theorem pair_fst {xs : List (NK × V × V)} {ys : List (NK × Value × Value)} (r : Paired R3 xs ys) : xs.map (·.1) = ys.map (·.1) := by
  induction r with
  | nil => rfl
  | cons h t ih => rw [List.map_cons, List.map_cons, ih, h.1]
theorem pair_any {xs : List (NK × V × V)} {ys : List (NK × Value × Value)} (r : Paired R3 xs ys) (k : NK) : (xs.any fun x => decide (x.1 = k)) = ys.any fun x => decide (x.1 = k) := by
  induction r with
  | nil => rfl
  | cons h t ih => rw [List.any_cons, List.any_cons, ih, h.1]
def putV (xs : List (NK × V × V)) (k : NK) (kv v : V) : List (NK × V × V) := if (xs.any fun x => decide (x.1 = k)) = true then xs.map (fun x => if x.1 = k then (x.1, x.2.1, v) else x) else xs ++ [(k, kv, v)]
/-- a table of the heap -/
structure NTb (X : Cx) (h : Heap) (a : Addr) (o : Obj) (xs : List (NK × V × V)) : Prop where
  ex : ∃ es ep ys, Mk.Tab X.w h a o es ep ys ∧ Paired R3 xs ys
section
variable {X : Cx} {H : Hp} {pins : List (Addr × Obj)} {σ : L2.St} {s : Shared} {hf : NK → Int} {a : Addr} {o : Obj} {xs : List (NK × V × V)}
end
section
variable {X : Cx} {hf : NK → Int}
end
end Pu
set_option Elab.async false
set_option linter.all false
set_option maxRecDepth 100000
set_option maxHeartbeats 2000000
namespace Pu
open PySem L2 Stp NdefX LamX
open PyProof.Rows hiding St
def hasN (kvs : List (D × D)) (k : NK) : Bool := kvs.any fun p => decide (nkD p.1 = some k)
def valN (kvs : List (D × D)) (k : NK) : Option D := (kvs.find? fun p => decide (nkD p.1 = some k)).map (·.2)
def putN (kvs : List (D × D)) (k : NK) (kd d : D) : List (D × D) := if hasN kvs k = true then kvs.map (fun p => if nkD p.1 = some k then (p.1, d) else p) else kvs ++ [(kd, d)]
section
variable {G : GC} {C : Cf} {H : Hp}
theorem RepN.len : ∀ {vs : List (NK × V × V)} {ds : List (D × D)}, RepN G C H vs ds → vs.length = ds.length
  | _, _, .nil => rfl
  | _, _, .cons _ _ _ l => congrArg (· + 1) (RepN.len l)
theorem RepN.any (k : NK) : ∀ {vs : List (NK × V × V)} {ds : List (D × D)}, RepN G C H vs ds → (vs.any fun x => decide (x.1 = k)) = hasN ds k
  | _, _, .nil => rfl
  | _, _, .cons (k := k') (kd := kd) (ds := ds) e _ _ l => by
    unfold hasN
    rw [List.any_cons, List.any_cons, RepN.any k l]
    congr 1
    dsimp only
    rw [e]
    by_cases h : k' = k <;> simp [h]
theorem RepN.val {k : NK} {d : D} : ∀ {vs : List (NK × V × V)} {ds : List (D × D)}, RepN G C H vs ds → valN ds k = some d → ∃ (j : Nat) (kv v : V), vs[j]? = some (k, kv, v) ∧ Rep G C H v d
  | _, _, .nil, q => by cases q
  | _, _, .cons (k := k') (kv := kv) (v := v) (kd := kd) (d := d') (ds := ds) e _ r l, q => by
    by_cases h : nkD kd = some k
    · have e1 : valN ((kd, d') :: ds) k = some d' := by simp [valN, List.find?_cons, h]
      rw [e1] at q
      cases q
      rw [e] at h
      cases h
      exact ⟨0, kv, v, rfl, r⟩
    · have e1 : valN ((kd, d') :: ds) k = valN ds k := by simp [valN, List.find?_cons, h]
      rw [e1] at q
      obtain ⟨j, kv, v, h1, h2⟩ := RepN.val l q
      exact ⟨j + 1, kv, v, by simpa using h1, h2⟩
theorem RepN.app : ∀ {vs ws : List (NK × V × V)} {ds es : List (D × D)}, RepN G C H vs ds → RepN G C H ws es → RepN G C H (vs ++ ws) (ds ++ es)
  | _, _, _, _, .nil, s => s
  | _, _, _, _, .cons e k r l, s => .cons e k r (RepN.app l s)
theorem RepN.repl {k : NK} {v : V} {d : D} (rv : Rep G C H v d) : ∀ {vs : List (NK × V × V)} {ds : List (D × D)}, RepN G C H vs ds → RepN G C H (vs.map fun x => if x.1 = k then (x.1, x.2.1, v) else x) (ds.map fun p => if nkD p.1 = some k then (p.1, d) else p)
  | _, _, .nil => .nil
  | _, _, .cons (k := k') (kd := kd) e rk r l => by
    rw [List.map_cons, List.map_cons]
    dsimp only
    by_cases h : k' = k
    · rw [if_pos h, if_pos (by rw [e, h])]
      exact .cons e rk rv (RepN.repl rv l)
    · rw [if_neg h, if_neg (fun z => h (by rw [e] at z; exact Option.some.inj z))]
      exact .cons e rk r (RepN.repl rv l)
theorem RepN.put {k : NK} {kv v : V} {kd d : D} {vs : List (NK × V × V)} {ds : List (D × D)} (l : RepN G C H vs ds) (e : nkD kd = some k) (rk : Rep G C H kv kd) (rv : Rep G C H v d) : RepN G C H (putV vs k kv v) (putN ds k kd d) := by
  unfold putV putN
  rw [l.any k]
  by_cases c : hasN ds k = true
  · rw [if_pos c, if_pos c]
    exact RepN.repl rv l
  · rw [if_neg c, if_neg c]
    exact l.app (.cons e rk rv .nil)
theorem RepN.get {i : Nat} {kd d : D} : ∀ {vs : List (NK × V × V)} {ds : List (D × D)}, RepN G C H vs ds → ds[i]? = some (kd, d) → ∃ k kv v, vs[i]? = some (k, kv, v) ∧ Rep G C H kv kd ∧ Rep G C H v d := by
  induction i with
  | zero =>
    intro vs ds l e
    cases l with
    | nil => simp at e
    | cons _ rk r l => simp at e; obtain ⟨rfl, rfl⟩ := e; exact ⟨_, _, _, rfl, rk, r⟩
  | succ i ih =>
    intro vs ds l e
    cases l with
    | nil => simp at e
    | cons _ rk r l =>
      obtain ⟨k, kv, v, h⟩ := ih l (by simpa using e)
      exact ⟨k, kv, v, by simpa using h.1, h.2⟩
end
section
variable {X : Cx} {G : GC} {W : WX} {b b1 b2 : Bool} {ma mb me mi : Env → T D} {a c e ei o : Expr} {pos : Pos} {i : Nat}
/-- d[k] = e -/
def ownN (i : Nat) (env : Env) (k : List (D × D) → T Fl) : T Fl := match env[i]? with
  | some (some (.dn xs)) => k xs
  | _ => .fail
def dputN (i : Nat) (mi m : Env → T D) : Env → T Fl := fun env => ownN i env fun kvs => exS (fun env => (m env).bind fun d => (mi env).bind fun j => .ret (d, j)) (fun p env => match nkD p.2 with
  | some k => grd (kvs.length ≤ big) (.ret (.nx (env.set i (some (.dn (putN kvs k p.2 p.1))))))
  | none => .fail) env
end
end Pu
set_option Elab.async false
set_option linter.all false
set_option maxRecDepth 100000
set_option maxHeartbeats 2000000
namespace Pu
open PySem L2 Stp NdefX LamX
open PyProof.Rows hiding St
section
variable {X : Cx} {pos : Pos} {hf : NK → Int}
end
section
variable {X : Cx} {G : GC} {W : WX} {e v : Expr} {mk mv : Env → T D} {pos : Pos}
def oDisp1N (mk mv : Env → T D) : Env → T O := fun env => (mk env).bind fun k => (mv env).bind fun d => match k with
  | .tup ks => (match nkD (.tup ks) with
    | some _ => .ret (.dn [(.tup ks, d)])
    | none => .fail)
  | _ => .fail
end
end Pu
set_option Elab.async false
set_option linter.all false
set_option maxRecDepth 100000
set_option maxHeartbeats 2000000
namespace Pu
open PySem L2 Stp NdefX LamX
open PyProof.Rows hiding St
def qNew (m : Env → T O) : Env → T D := fun env => (m env).bind fun o => .ret o.toD
section
variable {X : Cx} {G : GC} {W : WX} {e : Expr} {m : Env → T O}
theorem s_new (h : PE X e (tN G W m)) : PE X e (tQ G W false (qNew m)) := by
  refine PE.imp h fun σ H Q k => ?_
  obtain ⟨C, n, env, us, k⟩ := k
  refine ⟨C, n, env, us, k.ok, T.wp_mono (T.wp_bind k.wp) (fun o n' _ z C' H' v st wf r => ?_) (fun _ _ _ z => z)⟩
  obtain ⟨us1, r, nd, hu⟩ := r
  have nx := Nx.addL (C := C') (H := H') us1
  refine z (C'.addL us1) H' v ⟨st.kp, st.al, st.nx.trans nx, fun a f => ?_, st.pf, st.me⟩ ⟨wf.pen, fun a f => ?_, wf.tab⟩ ((r.froz fun a m => m).view false)
  · rcases f with f | f
    · exact .inr (.inr (hu a f).2.2.1)
    · exact st.fn a f
  · rcases f with f | f
    · obtain ⟨_, h2, _, u, h3, h4⟩ := hu a f
      exact ⟨⟨u, h3, h4⟩, h2⟩
    · exact wf.fz a f
end
section
variable {X : Cx} {G : GC} {W : WX} {b1 : Bool} {e : Expr} {p pos : Pos} {m : Env → T D}
end
end Pu
set_option Elab.async false
set_option linter.all false
set_option maxRecDepth 100000
set_option maxHeartbeats 2000000
namespace Pu
open PySem L2 Stp NdefX LamX
open PyProof.Rows hiding St
theorem nobj_at {hf : NK → Int} {a : Addr} {o : Obj} {xs : List (NK × V × V)} {es : Array DictEntry} {ep : Nat} (z : NObj hf a xs o) (d : o.data = .dict es ep) : es.size = xs.length ∧ ∀ (i : Nat) (k : NK) (kv v : V) (hi : i < es.size), xs[i]? = some (k, kv, v) → RelV kv es[i].key ∧ RelV v es[i].val := by
  obtain ⟨es', ep', d', ys, e4, r⟩ := z.da
  rw [d] at d'
  cases d'
  have sz : es.size = xs.length := by rw [← Array.length_toList, e4, List.length_map, pair_len r]
  refine ⟨sz, fun i k kv v hi e => ?_⟩
  obtain ⟨y, hy, _, r2, r3⟩ := pair_at r e
  have ey : es[i]? = some (entF hf y) := by rw [← Array.getElem?_toList, e4, List.getElem?_map, hy]; rfl
  rw [Array.getElem?_eq_getElem hi] at ey
  rw [Option.some.inj ey]
  exact ⟨r2, r3⟩
def itemsN (kvs : List (D × D)) : List D := kvs.map fun p => .tup [p.1, p.2]
def iItemsN (m : Env → T D) : Env → T (List D) := fun env => (m env).bind fun d => match d with
  | .dN kvs => .ret (itemsN kvs)
  | _ => .fail
section
variable {X : Cx} {G : GC} {W : WX} {e : Expr} {m : Env → T D} {apos cpos tpos : Pos} {elts : List Expr} {kk : Nat}
end
end Pu
set_option Elab.async false
set_option linter.all false
set_option maxRecDepth 100000
set_option maxHeartbeats 2000000
namespace Mk
open PySem
open Sem (wp)
section
variable {prog : Program} {w : World} {A : Around} {E : Value → Shared → Prop} {s : Shared} {a b : Addr} {es : Array DictEntry} {ep ep2 : Nat}
end
end Mk
namespace Pu
open PySem L2 Stp NdefX LamX
open PyProof.Rows hiding St
section
variable {X : Cx} {G : GC} {W : WX} {b1 b2 : Bool} {ma mb : Env → T D} {a c : Expr} {pos : Pos}
end
end Pu
set_option Elab.async false
set_option linter.all false
set_option maxRecDepth 100000
set_option maxHeartbeats 2000000
namespace Mk
open PySem
open Sem (wp)
section
variable {prog : Program} {w : World} {A : Around} {E : Value → Shared → Prop} {s : Shared}
end
end Mk
set_option Elab.async false
set_option linter.all false
set_option maxRecDepth 100000
set_option maxHeartbeats 2000000
namespace Pu
open PySem L2 Stp NdefX LamX
open PyProof.Rows hiding St
def copyN : List D → T O
  | [.dN [(.tup ks, v)]] => .ret (.dn [(.tup ks, v)])
  | _ => .fail
def oCopyN (m : Env → T D) : Env → T O := qNO copyN (aCons m aNil)
section
variable {X : Cx} {G : GC} {W : WX} {e : Expr} {m : Env → T D} {p pos : Pos}
end
end Pu
set_option Elab.async false
set_option linter.all false
set_option maxRecDepth 100000
set_option maxHeartbeats 2000000
namespace Pu
open PySem L2 Stp NdefX LamX
open PyProof.Rows hiding St
def addQ : D → D → T O
  | .lst xs, .lst ys => grd (xs.length + ys.length ≤ big) (.ret (.ls (xs ++ ys)))
  | _, _ => .fail
def oAddQ (m1 m2 : Env → T D) : Env → T O := fun env => (m1 env).bind fun a => (m2 env).bind fun b => addQ a b
section
variable {X : Cx} {G : GC} {W : WX} {e c e0 e1 : Expr} {m1 m2 : Env → T D} {m0 : Env → T O} {p pos : Pos} {j : Nat}
end
end Pu
set_option Elab.async false
set_option linter.all false
set_option maxRecDepth 100000
set_option maxHeartbeats 4000000
namespace Pu
open PySem L2 Stp NdefX LamX
open PyProof.Rows hiding St
/-- a tuple that begins with these ints -/
def IsHd (h : Heap) (v : Value) (x y : Int) : Prop := ∃ a o t u xs n r, v = .ref a ∧ h.get? a = some o ∧ o.cls = .type "tuple" ∧ o.data = .seq xs n ∧ xs.toList = .int x t :: .int y u :: r
theorem IsHd.keeps {h h' : Heap} {v : Value} {x y : Int} (p : IsHd h v x y) (k : ∀ b o, h.get? b = some o → o.cls = .type "tuple" → h'.get? b = some o) : IsHd h' v x y := by
  obtain ⟨a, o, t, u, xs, n, r, e, ho, hc, hd⟩ := p
  exact ⟨a, o, t, u, xs, n, r, e, k _ _ ho hc, hc, hd⟩
section
variable {prog : Program} {w : World} {A : Around} {s : Shared}
end
section
variable {X : Cx}
end
section
variable {G : GC} {C : Cf} {H : Hp}
end
section
variable {X : Cx} {G : GC} {W : WX} {e : Expr} {m : Env → T D} {p pos : Pos}
end
end Pu
set_option Elab.async false
set_option linter.all false
set_option maxRecDepth 100000
set_option maxHeartbeats 4000000
namespace Pu
open PySem L2 Stp NdefX LamX
open PyProof.Rows hiding St
section
variable {X : Cx}
end
section
variable {X : Cx} {G : GC} {W : WX}
end
end Pu
set_option Elab.async false
set_option linter.all false
set_option maxRecDepth 100000
set_option maxHeartbeats 4000000
namespace Mk
open PySem PyProof.Rows
section
variable {prog : Program} {w : World} {A : Around} {E : Value → Shared → Prop} {s : Shared} {d : Addr} {key : Value} {o : Obj} {es : Array DictEntry} {ep : Nat} {xs : List (NK × Value × Value)} {k : NK}
end
end Mk
namespace Pu
open PySem L2 Stp NdefX LamX
open PyProof.Rows hiding St
section
variable {X : Cx} {G : GC} {W : WX} {e tg o : Expr} {m mb : Env → T D} {apos cpos : Pos}
theorem RepN.none {C : Cf} {H : Hp} {k : NK} : ∀ {vs : List (NK × V × V)} {ds : List (D × D)}, RepN G C H vs ds → valN ds k = none → vs.any (fun p => decide (p.1 = k)) = false
  | _, _, .nil, _ => rfl
  | _, _, .cons (k := k') (kd := kd) e _ _ l, q => by
    by_cases h : nkD kd = some k
    · simp [valN, List.find?_cons, h] at q
    · rw [List.any_cons, RepN.none l (by simpa [valN, List.find?_cons, h] using q)]
      have : k' ≠ k := fun z => h (by rw [e, z])
      simp [this]
theorem RepN.one {C : Cf} {H : Hp} {k : NK} {d : D} {vs : List (NK × V × V)} {ds : List (D × D)} (nd : (vs.map (·.1)).Nodup) (l : RepN G C H vs ds) (q : valN ds k = some d) (j : Nat) (kv v : V) (hj : vs[j]? = some (k, kv, v)) : Rep G C H v d := by
  obtain ⟨i, kv', v', hi, r⟩ := l.val q
  have ij : i = j := by
    have h1 := List.getElem?_eq_some_iff.mp hi
    have h2 := List.getElem?_eq_some_iff.mp hj
    have e1 : (vs.map (·.1))[i]? = some k := by rw [List.getElem?_map, hi]; rfl
    have e2 : (vs.map (·.1))[j]? = some k := by rw [List.getElem?_map, hj]; rfl
    exact (List.getElem?_inj (by rw [List.length_map]; exact h1.1) nd).mp (e1.trans e2.symm)
  subst ij
  rw [hi] at hj
  cases hj
  exact r
end
end Pu
set_option Elab.async false
set_option linter.all false
set_option maxRecDepth 100000
set_option maxHeartbeats 4000000
namespace Pu
open PySem L2 Stp NdefX LamX
open PyProof.Rows hiding St
section
variable {X : Cx} {G : GC} {W : WX} {i : Nat} {mi mc : Env → T D} {m k : Env → T Fl} {o ei c : Expr} {ap cp pos ipos : Pos} {ss ss' : List Stmt}
end
end Pu
set_option Elab.async false
set_option linter.all false
set_option maxRecDepth 100000
set_option maxHeartbeats 4000000
namespace Pu
open PySem L2 Stp NdefX LamX
open PyProof.Rows hiding St
section
variable {G : GC} {C C1 : Cf} {n : Nat} {H H1 : Hp}
end
section
variable {X : Cx} {G : GC} {W : WX} {i : Nat} {it : Env → T (List D)} {pt : Pt} {mi : Env → T D} {o ei tg iter : Expr} {scope : Scope} {own : List (Str × Nat)} {ap cp pos rpos : Pos}
end
end Pu
set_option Elab.async false
set_option linter.all false
set_option maxRecDepth 100000
set_option maxHeartbeats 4000000
namespace L2
open PySem PySem.Spec PyProof.Rows TS
section
variable {X : Cx}
end
end L2
namespace Pu
open PySem L2 Stp NdefX LamX
open PyProof.Rows hiding St
section
variable {X : Cx} {G : GC} {W : WX} {e : Expr} {m : Env → T D} {p p2 q pos : Pos}
/-- str(int) -/
def strIF : List D → T D
  | [.int i] => grd (i.natAbs.log2 < 1920) (.ret (.str (toString i)))
  | _ => .fail
theorem s_strI (hg : Gl X "str") (hm : X.mg "str" = none) (ha : PE X e (tQ G W false m)) (hs : starEach [e] X.env = (false, eval e X.env) :: starEach [] X.env := by rfl) (hpl : (backTo pos (starEach [] X.env)).any (·.1) = false := by rfl) :
    PE X (.Call (.Name "str" p) [e] [] pos) (tQ G W false (qN strIF (aCons m aNil))) := by
  refine s_callTy call_str_int (fun σ env us C n H vs ds Q r h => ?_) hg hm (by decide +kernel) (a_cons ha a_nil hs) (by decide) (by decide) hs hpl
  cases r with
  | nil => exact h.no.elim
  | cons r1 l =>
    cases l with
    | cons _ _ => cases r1 <;> exact h.no.elim
    | nil =>
      cases r1 <;> try exact h.no.elim
      case int i =>
        obtain ⟨hl, h⟩ := h.grd
        exact ⟨i, rfl, hl, h.ret (.str _)⟩
end
section
variable {X : Cx} {G : GC} {W : WX} {i : Nat} {o : Expr} {ap cp pos : Pos}
end
end Pu
set_option Elab.async false
set_option linter.all false
set_option maxRecDepth 100000
set_option maxHeartbeats 4000000
namespace Pu
open PySem L2 Stp NdefX LamX
open PyProof.Rows hiding St
def strL : List D → Option (List Str)
  | [] => some []
  | .str x :: ds => (strL ds).map (x :: ·)
  | _ :: _ => none
theorem strL_map (ys : List Str) : strL (ys.map D.str) = some ys := by
  induction ys with
  | nil => rfl
  | cons y ys ih => rw [List.map_cons, strL, ih]; rfl
theorem strL_rep {G : GC} {C : Cf} {H : Hp} : ∀ {vs : List V} {ds : List D} {ys : List Str}, RepL G C H vs ds → strL ds = some ys → vs = ys.map V.str
  | _, _, _, .nil, e => by cases e; rfl
  | _, _, _, .cons (d := d) r l, e => by
    cases d <;> try (cases e; done)
    case str x =>
      rw [strL, Option.map_eq_some_iff] at e
      obtain ⟨zs, e, rfl⟩ := e
      have h1 := strL_rep l e
      cases r
      rw [h1]
      rfl
theorem strs_rep {G : GC} {C : Cf} {H : Hp} : ∀ (ys : List Str), RepL G C H (ys.map V.str) (ys.map D.str)
  | [] => .nil
  | y :: ys => .cons (.str y) (strs_rep ys)
def joinD (a : Str) (e : D) : T D := match e with
  | .lst ds => (match strL ds with
    | some ys => grd ((ys.map (·.length)).sum + ys.length * a.length ≤ big) (.ret (.str (Txt.join a ys)))
    | none => .fail)
  | _ => .fail
def splitD (a : Str) (e : D) : T D := match e with
  | .str b => grd ((b.length == 0) = false ∧ a.length ≤ big) (.ret (.lst ((Txt.split a b).map .str)))
  | _ => .fail
def qStr (f : Str → D → T D) (mo me : Env → T D) : Env → T D := fun env => (mo env).bind fun d => match d with
  | .str a => (me env).bind (f a)
  | _ => .fail
section
variable {X : Cx} {G : GC} {W : WX} {b : Bool} {o e : Expr} {mo me : Env → T D} {ap cp : Pos}
theorem s_join (hk : X.K = G.K) (ho : PE X o (tQ G W false mo)) (he : PE X e (tQ G W b me)) (hs : starEach [e] X.env = [(false, eval e X.env)] := by rfl)
    (hbase : attributeBase o "join" X.env (eval o X.env) = eval o X.env := by rfl) (hline : (ap.endLine == cp.line) = true := by rfl) : PE X (.Call (.Attribute o "join" ap) [e] [] cp) (tQ G W false (qStr joinD mo me)) := by
  refine PE.imp (pe_join ho he hs hbase hline) fun σ H Q h => ?_
  obtain ⟨C, n, env, us, h⟩ := h
  refine ⟨C, n, env, us, (h.bind (R := rV G false)).imp ?_⟩
  rintro v H1 ⟨C1, n1, d, s1, r1, h1⟩
  have r1 := r1.unview
  cases r1 <;> try exact h1.no.elim
  case str a =>
    refine ⟨⟨a, rfl⟩, C1, n1, env, us, (At.bind (R := rV G b) (f := joinD a) h1).imp ?_⟩
    rintro y H2 ⟨C2, n2, d2, s2, r2, h2⟩
    cases r2 <;> try exact h2.no.elim
    case lst p vs ds f hp l =>
      have h2 : At G W (rV G false) σ env us C2 n2 H2 (match strL ds with
        | some ys => grd ((ys.map (·.length)).sum + ys.length * a.length ≤ big) (.ret (.str (Txt.join a ys)))
        | none => .fail) Q := h2
      cases q : strL ds with
      | none => rw [q] at h2; exact h2.no.elim
      | some ys =>
        rw [q] at h2
        obtain ⟨hz, h2⟩ := h2.grd
        have ev := strL_rep l q
        subst ev
        exact ⟨a, p, ys, rfl, rfl, .inl (SqL.of hp), Nat.le_trans hz (by decide), h2.ret (.str _)⟩
theorem s_split (ho : PE X o (tQ G W false mo)) (he : PE X e (tQ G W false me)) (hs : starEach [e] X.env = [(false, eval e X.env)] := by rfl)
    (hbase : attributeBase o "split" X.env (eval o X.env) = eval o X.env := by rfl) (hline : (ap.endLine == cp.line) = true := by rfl) : PE X (.Call (.Attribute o "split" ap) [e] [] cp) (tQ G W false (qStr splitD mo me)) := by
  refine PE.imp (pe_split ho he hs hbase hline) fun σ H Q h => ?_
  obtain ⟨C, n, env, us, h⟩ := h
  refine ⟨C, n, env, us, (h.bind (R := rV G false)).imp ?_⟩
  rintro v H1 ⟨C1, n1, d, s1, r1, h1⟩
  have r1 := r1.unview
  cases r1 <;> try exact h1.no.elim
  case str a =>
    refine ⟨⟨a, rfl⟩, C1, n1, env, us, (At.bind (R := rV G false) (f := splitD a) h1).imp ?_⟩
    rintro y H2 ⟨C2, n2, d2, s2, r2, h2⟩
    have r2 := r2.unview
    cases r2 <;> try exact h2.no.elim
    case str c =>
      have h2 : At G W (rV G false) σ env us C2 n2 H2 (grd ((c.length == 0) = false ∧ a.length ≤ big) (.ret (.lst ((Txt.split a c).map .str)))) Q := h2
      obtain ⟨⟨hz, hz2⟩, h2⟩ := h2.grd
      exact ⟨a, c, rfl, rfl, hz, by have : (big : Nat) + 2 ≤ sizeLine := by decide
                                    omega, fun p hp => h2.newL (strs_rep _) hp⟩
end
def intTF : List D → T D
  | [.str a] => grd (a.length ≤ 640) (match PySem.intText? a with
    | some n => .ret (.int n)
    | none => .fail)
  | _ => .fail
section
variable {X : Cx} {G : GC} {W : WX} {e : Expr} {m : Env → T D} {p pos : Pos} {x z : Str}
theorem s_intT (hg : Gl X "int") (hm : X.mg "int" = none) (ha : PE X e (tQ G W false m)) (hs : starEach [e] X.env = (false, eval e X.env) :: starEach [] X.env := by rfl) (hpl : (backTo pos (starEach [] X.env)).any (·.1) = false := by rfl) :
    PE X (.Call (.Name "int" p) [e] [] pos) (tQ G W false (qN intTF (aCons m aNil))) := by
  refine s_callTy call_int_str (fun σ env us C n H vs ds Q r h => ?_) hg hm (by decide +kernel) (a_cons ha a_nil hs) (by decide) (by decide) hs hpl
  cases r with
  | nil => exact h.no.elim
  | cons r1 l =>
    cases l with
    | cons _ _ => cases r1 <;> exact h.no.elim
    | nil =>
      cases r1 <;> try exact h.no.elim
      case str a =>
        obtain ⟨hl, h⟩ := h.grd
        cases q : PySem.intText? a with
        | none => rw [q] at h; exact h.no.elim
        | some n => rw [q] at h; exact ⟨a, n, rfl, q, hl, h.ret (.int _)⟩
theorem s_globS (hg : Gl X x) (hm : ∃ t, X.mg x = some (.str z t)) (hd : (x == ("__debug__" : Str)) = false := by decide) : PE X (.Name x pos) (tQ G W false (qC (.str z))) := by
  obtain ⟨t, hm⟩ := hm
  exact s_glob (v := .str z) hg hm ⟨t, rfl⟩ (fun _ _ => .str z) hd
end
def fmtD : D → T D
  | .str y => grd (y.length ≤ big) (.ret (.str y))
  | .int i => grd (i.natAbs.log2 < 1920) (.ret (.str (toString i)))
  | _ => .fail
def fJs : List (Env → T D) → Str → Env → T D
  | [], acc, _ => .ret (.str acc)
  | m :: ms, acc, env => (m env).bind fun d => match d with
    | .str y => grd ((acc ++ y).length ≤ big) (fJs ms (acc ++ y) env)
    | _ => .fail
section
variable {X : Cx} {G : GC} {W : WX} {e v1 v2 : Expr} {rest es : List Expr} {m : Env → T D} {ms : List (Env → T D)} {pos : Pos}
theorem s_fmt (he : PE X e (tQ G W false m)) : PE X (.FormattedValue e (-1) none pos) (tQ G W false (q1 fmtD m)) := by
  refine PE.imp (pe_fmt he) fun σ H Q h => ?_
  obtain ⟨C, n, env, us, h⟩ := h
  refine ⟨C, n, env, us, (h.bind (R := rV G false)).imp ?_⟩
  rintro v H1 ⟨C1, n1, d, s1, r1, h1⟩
  have r1 := r1.unview
  cases r1 <;> try exact h1.no.elim
  case str y =>
    obtain ⟨hz, h1⟩ := h1.grd
    exact .inl ⟨y, rfl, Nat.le_trans hz (by decide), h1.ret (.str _)⟩
  case int i =>
    obtain ⟨hz, h1⟩ := h1.grd
    exact .inr ⟨i, rfl, hz, h1.ret (.str _)⟩
inductive FJ (X : Cx) (G : GC) (W : WX) : List Expr → List (Env → T D) → Prop
  | nil : FJ X G W [] []
  | cons {e : Expr} {es : List Expr} {m : Env → T D} {ms : List (Env → T D)} : PE X e (tQ G W false m) → FJ X G W es ms → FJ X G W (e :: es) (m :: ms)
theorem FJ.pj : ∀ {es : List Expr} {ms : List (Env → T D)}, FJ X G W es ms → PJ X es (ms.map fun m => tQ G W false m)
  | _, _, .nil => .nil
  | _, _, .cons h r => .cons h (FJ.pj r)
theorem fJs_ok {σ : L2.St} {Q : VK} : ∀ {ms : List (Env → T D)} {acc : Str} {H : Hp}, tQ G W false (fJs ms acc) σ H Q → tJs (ms.map fun m => tQ G W false m) acc σ H fun out H1 => Q (.str out) H1
  | [], acc, H, ⟨C, n, env, us, h⟩ => h.ret (.str _)
  | m :: ms, acc, H, ⟨C, n, env, us, h⟩ => by
    refine ⟨C, n, env, us, (At.bind (R := rV G false) h).imp ?_⟩
    rintro v H1 ⟨C1, n1, d, s1, r1, h1⟩
    have r1 := r1.unview
    cases r1 <;> try exact h1.no.elim
    case str y =>
      obtain ⟨hz, h1⟩ := h1.grd
      exact ⟨y, rfl, Nat.le_trans hz (by decide), fJs_ok ⟨C1, n1, env, us, h1⟩⟩
theorem s_fstr (h : FJ X G W (v1 :: v2 :: rest) ms) : PE X (.JoinedStr (v1 :: v2 :: rest) pos) (tQ G W false (fJs ms Str.empty)) :=
  PE.imp (pe_joined h.pj) fun σ H Q k => fJs_ok k
end
end Pu
set_option Elab.async false
set_option linter.all false
set_option maxRecDepth 100000
set_option maxHeartbeats 4000000
namespace L2
open PySem
open PyProof.Rows hiding St
def IteF (K : PySem.W.Frag) (k : Int) (a : Addr) : It :=
  ⟨fun i H => ∃ (xs : List V) (x : V), SqL K H a xs ∧ xs[i]? = some x, fun i H v H' => ∃ T x, v = .ref T ∧ H T = none ∧ H' = upd H T (.tup [.int (k + (i : Nat)), x]) ∧ ∀ xs, SqL K H a xs → xs[i]? = some x, fun i H => ∃ xs : List V, SqL K H a xs ∧ xs.length ≤ i⟩
theorem turn_enumF {P : Program} {w : World} {K : PySem.W.Frag} {elts : List Expr} {kk : Nat} {tpos : Pos} (k : Int) (a e it : Addr) :
    Turn P w K (.Tuple elts kk tpos) (IteF K k a) [e, it] e (fun i h => (∃ old, IsEnum h e it (k + (i : Nat)) old) ∧ h.IsListIter it a i ∧ e ≠ it ∧ a ≠ e ∧ a ≠ it) where
  mem := by simp
  obj := fun i h st b hb => by
    obtain ⟨⟨old, he⟩, ⟨o, ho, hc, hd⟩, _⟩ := st
    have e' : b = e ∨ b = it := by simpa using hb
    rcases e' with z | z
    · rw [z]; exact ⟨_, he, fun v q => nomatch q⟩
    · rw [z]; exact ⟨o, ho, fun v q => by rw [hd] at q; cases q⟩
  keep := fun i h h' st k => let ⟨⟨old, he⟩, hi, hne⟩ := st; ⟨⟨old, k e (by simp) _ he⟩, hi.at fun o q => k it (by simp) o q, hne⟩
  item := by
    intro X hP hw hK hc i pins s σ H E I hf st hg
    subst hP hw hK
    obtain ⟨⟨old, he⟩, hit, hne, ha1, ha2⟩ := st
    obtain ⟨xs, x, hq, hx⟩ := hg
    obtain ⟨its, rv, p, hz⟩ := I.list hq
    obtain ⟨u, hu, ru⟩ := rv.get hx
    have hlt : i < its.toArray.size := by
      have := (List.getElem?_eq_some_iff.mp hu).1
      simpa using this
    have hel : e < s.heap.objs.size := Heap.lt_size he
    have hil : it < s.heap.objs.size := by obtain ⟨_, q, _⟩ := hit; exact Heap.lt_size q
    refine wpAny_pyNext_enum_itemC (Draws.list (prog := X.prog) (w := X.w) (A := X.A.in1) (show X.A.in1.handled = none from I.ok.hd hc) it a ha2 its.toArray) he ⟨hit, p.isList⟩ hlt hne (by simp [hne, Ne.symm ha1]) fun u' h' tk hu' ho hit' hT hsz hk => ?_
    have eu : u' = u := by
      have : its[i]? = some u' := by simpa using hu'
      rw [hu] at this; exact (Option.some.inj this).symm
    subst eu
    refine ⟨_, rfl, wpAny_letOwnedTupleGo_enum (s := { s with heap := h', toks := tk + 1 }) ho fun h'' he' sb => ?_⟩
    have hT2 : h''.get? s.heap.objs.size = some { cls := .type "tuple", data := .seq #[.int (k + (i : Nat)) tk, u'] } := (sb.2 _ (Nat.ne_of_gt hel)).trans hT
    have new : ObjOk X.prog X.w (upd H s.heap.objs.size (.tup [.int (k + (i : Nat)), x])) h'' s.heap.objs.size (.tup [.int (k + (i : Nat)), x]) :=
      ⟨by show 2 ≤ sizeLine; decide, [.int (k + (i : Nat)) tk, u'], .cons ⟨_, rfl⟩ (.cons ru .nil), ⟨_, hT2, rfl, _, rfl⟩⟩
    have I1 : Inv X pins σ (upd H s.heap.objs.size (.tup [.int (k + (i : Nat)), x])) { s with heap := h'', toks := tk + 1 } :=
      I.turnedNew (ch := [e, it]) (fun b ob hb q => (sb.2 b (fun z => hb (by simp [z]))).trans (hk b ob (fun z => hb (by simp [z])) (fun z => hb (by simp [z])) q)) hf (Nat.le_refl _) new
    refine ⟨.ref s.heap.objs.size, _, I1, rfl, ⟨_, x, rfl, I.hok.fresh (Nat.le_refl _), rfl, fun ys hy => by rw [I.list_inj hy hq]; exact hx⟩, ⟨⟨u', ?_⟩, hit'.1.at fun o q => (sb.2 it (Ne.symm hne)).trans q, hne, ha1, ha2⟩, fun b hb => ?_⟩
    · have e1 : k + ((i + 1 : Nat) : Int) = k + (i : Int) + 1 := by omega
      rw [e1]; exact he'
    · have hb' : b < s.heap.objs.size := by
        have e' : b = e ∨ b = it := by simpa using hb
        rcases e' with z | z
        · rw [z]; exact hel
        · rw [z]; exact hil
      rw [upd_ne (Nat.ne_of_lt hb')]
      exact (hf b hb).1
  done := by
    intro X hP hw hK hc i pins s σ H E I hf st hg
    subst hP hw hK
    obtain ⟨⟨old, he⟩, hit, hne, ha1, ha2⟩ := st
    obtain ⟨xs, hq, hx⟩ := hg
    obtain ⟨its, rv, p, hz⟩ := I.list hq
    obtain ⟨f0, f1, f2, f3, f4, f5⟩ := hf it (by simp)
    have hl := rv.length
    have hT : s.TypeIs (.ref e) "enumerate" := ⟨_, he, rfl⟩
    unfold pyNext
    refine wpAny_bind (wpAny_attempt (wpAny_callSpecial?_slot (name := Str.ofString "__next__") hT F.slot_enumerate_next
      (wpAny_call_entry F.slot_enumerate_next hT F.entry_enumerate_next ?_ (F.args_enumerate_next_1 _))))
    show wpAny _ _ (field (.ref e) 2 >>= _) _ _ _
    refine wpAny_bind (wpAny_field he rfl (x := .ref it) rfl ?_)
    refine wpAny_bind (wpAny_nextOf_list_end (I.ok.hd hc) hit p.isList (by simp; omega) fun h' x he' hx' => ?_)
    obtain ⟨o, ho, hc⟩ := hx'
    refine wpAny_bind (wpAny_isInstance (T := "StopIteration") (b := true) ⟨o, ho, hc⟩ isSubtype_stop ?_)
    exact wpAny_pure ⟨rfl, I.turned (t' := s.toks) (fun b o hb q => he' b o hb q) f0 f1 f3 f4 f5⟩
  self := fun A i s Q E st h => let ⟨⟨_, he⟩, _⟩ := st; wpAny_pyIter_enum he h
def iEnumF (K : PySem.W.Frag) (ta : TA) : TI := fun σ H R => ta σ H fun vs H1 => ∃ a xs k, vs = [.ref a, .int k] ∧ -(2 ^ 63) ≤ k ∧ k < 2 ^ 63 ∧ SqL K H1 a xs ∧ R (IteF K k a) H1
theorem pi_enumF {X : Cx} {e e2 : Expr} {ta : TA} {p pos tpos : Pos} {elts : List Expr} {kk : Nat} (hg : Gl X "enumerate") (hm : X.mg "enumerate" = none) (ha : PA X [e, e2] ta) (hs : starEach [e, e2] X.env = (false, eval e X.env) :: starEach [e2] X.env := by rfl) (hpl : (backTo pos (starEach [e2] X.env)).any (·.1) = false := by rfl) :
    PI X (.Tuple elts kk tpos) (.Call (.Name "enumerate" p) [e, e2] [] pos) (iEnumF X.K ta) := by
  refine ⟨fun pins s σ H R I h => ?_⟩
  refine Call_ (ld_blt I hg hm boot_enumerate (PyProof.Rows.callWith_type1 (thn (ha.run pos pins s σ H _ I h) fun us s1 ⟨vs, H1, I1, r1, q1⟩ => ?_) hs hpl))
  obtain ⟨a, xs, k, ex, k0, k1, hq, q⟩ := q1
  subst ex
  cases r1 with
  | cons r rr =>
    cases rr with
    | cons r2 rr =>
    cases rr
    cases r
    obtain ⟨t, rfl⟩ := r2
    have fr : ∀ b, b ∈ [s1.heap.objs.size + 1, s1.heap.objs.size] → FpOk X pins H1 b := fun b hb => by
      have e' : b = s1.heap.objs.size + 1 ∨ b = s1.heap.objs.size := by simpa using hb
      have hle : s1.heap.objs.size ≤ b := by
        rcases e' with z | z
        · rw [z]; exact Nat.le_add_right _ _
        · rw [z]; exact Nat.le_refl _
      exact I1.fpOk hle (I1.hok.fresh hle)
    obtain ⟨its, rv, p', hz⟩ := I1.list hq
    have hlt : a < s1.heap.objs.size := by obtain ⟨_, q, _⟩ := p'.isList; exact Heap.lt_size q
    refine enum_begins (begins_list a its.toArray) p'.isList k0 k1 fun h' he hit hsz hk => wpAny_pyIter_enum he ?_
    have I2 : Inv X pins σ H1 { s1 with heap := h' } := I1.kept (t' := s1.toks) hk
    exact ⟨s1.heap.objs.size + 1, [s1.heap.objs.size + 1, s1.heap.objs.size], _, _, H1, rfl, I2, turn_enumF k a (s1.heap.objs.size + 1) s1.heap.objs.size, ⟨⟨.none, by rw [show k + ((0 : Nat) : Int) = k by omega]; exact he⟩, ⟨_, hit, rfl, rfl⟩, Nat.succ_ne_self _, Nat.ne_of_lt (Nat.lt_succ_of_lt hlt), Nat.ne_of_lt hlt⟩, fr, q⟩
end L2
namespace Pu
open PySem L2 Stp NdefX LamX
open PyProof.Rows hiding St
def enumF (k : Int) : List D → List D
  | [] => []
  | d :: ds => .tup [.int k, d] :: enumF (k + 1) ds
theorem enumF_at : ∀ (k : Int) (ds : List D) (i : Nat) (d : D), (enumF k ds)[i]? = some d → ∃ x, ds[i]? = some x ∧ d = .tup [.int (k + (i : Nat)), x]
  | _, [], i, d, e => by simp [enumF] at e
  | k, x :: ds, 0, d, e => by
    simp [enumF] at e
    exact ⟨x, rfl, by rw [← e]; simp⟩
  | k, x :: ds, i + 1, d, e => by
    obtain ⟨y, h1, h2⟩ := enumF_at (k + 1) ds i d (by simpa [enumF] using e)
    exact ⟨y, by simpa using h1, by rw [h2, show k + 1 + (i : Nat) = k + ((i + 1 : Nat) : Int) by omega]⟩
theorem enumF_len : ∀ (k : Int) (ds : List D), (enumF k ds).length = ds.length
  | _, [] => rfl
  | k, _ :: ds => congrArg (· + 1) (enumF_len (k + 1) ds)
def iEnumK (m mk : Env → T D) : Env → T (List D) := fun env => (m env).bind fun d => (mk env).bind fun k => match d, k with
  | .lst xs, .int k => grd (-1000000 ≤ k ∧ k ≤ 1000000) (.ret (enumF k xs))
  | _, _ => .fail
section
variable {X : Cx} {G : GC} {W : WX} {e e2 : Expr} {m mk : Env → T D} {p pos tpos : Pos} {elts : List Expr} {kk : Nat}
theorem i_enumK (hk : X.K = G.K) (hg : Gl X "enumerate") (hm : X.mg "enumerate" = none) (ha : PE X e (tQ G W false m)) (hb : PE X e2 (tQ G W false mk)) (hs : starEach [e, e2] X.env = (false, eval e X.env) :: starEach [e2] X.env := by rfl) (hs' : starEach [e2] X.env = (false, eval e2 X.env) :: starEach [] X.env := by rfl) (hpl : (backTo pos (starEach [e2] X.env)).any (·.1) = false := by rfl) :
    PI X (.Tuple elts kk tpos) (.Call (.Name "enumerate" p) [e, e2] [] pos) (tI G W (iEnumK m mk)) := by
  refine PI.imp (pi_enumF hg hm (pa_cons ha (pa_cons hb pa_nil hs') hs) hs hpl) fun σ H R h => ?_
  obtain ⟨C, n, env, us, h⟩ := h
  refine ⟨C, n, env, us, (h.bind (R := rV G false)).imp ?_⟩
  rintro v H1 ⟨C1, n1, d, s1, r1, h1⟩
  refine ⟨C1, n1, env, us, (h1.bind (R := rV G false)).imp ?_⟩
  rintro v2 H2 ⟨C2, n2, d2, s2, r2, h2⟩
  have r1 := r1.unview.nx s2.nx
  have r2 := r2.unview
  rw [hk]
  cases r1 <;> try exact h2.no.elim
  case lst p vs ds f hp l =>
    cases r2 <;> try exact h2.no.elim
    case int k =>
      obtain ⟨⟨k0, k1⟩, h2⟩ := h2.grd
      refine ⟨p, vs, k, rfl, by omega, by omega, SqL.of hp, h2.ret ⟨fun C' H' nx i d ei => ?_, fun C' H' nx => ?_⟩⟩
      · have h' := (nx.fk p _ f hp fun _ z => nomatch z).2
        have l' := l.nx nx
        obtain ⟨x, ex, rfl⟩ := enumF_at k ds i d ei
        obtain ⟨v, e1, rv⟩ := l'.get ex
        refine ⟨⟨vs, v, SqL.of h', e1⟩, fun y H'' hy => ?_⟩
        obtain ⟨Tt, w, rfl, hn, rfl, hw⟩ := hy
        have e3 := hw vs (SqL.of h')
        rw [e1] at e3
        cases e3
        have st := step_tup (C := C') (o := .tup [.int (k + (i : Nat)), v]) hn
        exact ⟨st, fun n w => w.tup hn, .tup upd_same (.cons (.int _) (.cons (rv.nx st.nx) .nil))⟩
      · have h' := (nx.fk p _ f hp fun _ z => nomatch z).2
        exact ⟨vs, SqL.of h', by rw [l.length, enumF_len]; exact Nat.le_refl _⟩
end
end Pu
set_option Elab.async false
set_option linter.all false
set_option maxRecDepth 100000
set_option maxHeartbeats 4000000
namespace Mk
open PySem PyProof.Rows
section
variable {prog : Program} {w : World} {A : Around} {E : Value → Shared → Prop} {s : Shared} {d : Addr} {key x : Value} {o : Obj} {es : Array DictEntry} {ep : Nat} {xs : List (NK × Value × Value)} {k : NK}
theorem getOr_ {Q : Value → Shared → Prop} (hu : A.units + 9 < cLine) (hk : KeyIs s.heap k key) (T : Tab w s.heap d o es ep xs) (hx : o.ExactDict) (hd : (d == sysModules) = false)
    (h0 : (∀ (j : Nat) (p : Value × Value), xs[j]? ≠ some (k, p)) → Q x { s with toks := s.toks + k.draws }) (h1 : ∀ (j : Nat) (p : Value × Value), xs[j]? = some (k, p) → Q p.2 { s with toks := s.toks + k.draws }) :
    wpAny (model prog w) A (call (.builtin "dict.get") [.ref d, key, x]) Q E s := by
  have hu' : A.in1.units + 8 < cLine := by rw [Around.in1_units]; omega
  refine wpAny_call_entry F.slot_dict_get (T.ty hx) F.entry_dict_get ?_ (F.args_dict_get_3 _ _ _)
  show wpAny _ _ (dictGet d key >>= _) _ _ s
  refine wpAny_bind (get hu' hk T (fun n => ?_) fun j p e => ?_)
  · show wpAny _ _ (Builtin.Dict.missed d key >>= _) _ _ _
    exact wpAny_bind (wpAny_missed_other hd (wpAny_pure ⟨x, rfl, h0 n⟩))
  · exact wpAny_pure ⟨p.2, rfl, h1 j p e⟩
end
end Mk
namespace Pu
open PySem L2 Stp NdefX LamX
open PyProof.Rows hiding St
/-- a dict at its place, written or made -/
def TabX (X : Cx) (H : Hp) (a : Addr) (o : Obj) : Prop := H a = some (DNx a o) ∨ X.K.lookup a = some o
section
variable {X : Cx} {H : Hp} {pins : List (Addr × Obj)} {σ : L2.St} {s : Shared} {hf : NK → Int} {a : Addr} {o : Obj} {xs : List (NK × V × V)}
theorem tabx_at (I : L2.Inv X pins σ H s) (e : TabX X H a o) : s.heap.get? a = some o := e.elim (fun e => dnx_at I.hok e) fun e => I.kIn a o e
theorem ntbx_of (hw : hf = fun k => k.hash X.w) (I : L2.Inv X pins σ H s) (e : TabX X H a o) (z : NObj hf a xs o) (ks : ∀ x ∈ xs, KeyH X H x.2.1 x.1) : NTb X s.heap a o xs := by
  obtain ⟨es, ep, e3, ys, e4, r⟩ := z.da
  refine ⟨es, ep, ys, ⟨tabx_at I e, e3, ?_, fun y m => ?_, ?_⟩, r⟩
  · rw [e4]
    subst hw
    rfl
  · obtain ⟨j, hj⟩ := List.mem_iff_getElem?.mp m
    obtain ⟨x, hx, r1, r2, _⟩ := pair_at2 r hj
    rw [← r1]
    exact ks x (List.mem_of_getElem? hx) pins σ s _ I r2
  · rw [← pair_fst r]; exact z.nd
end
def tGetD (hf : NK → Int) (X : Cx) (td ty tz : TE) : TE := fun σ H Q => td σ H fun x H1 => ∃ a o xs, x = .ref a ∧ TabX X H1 a o ∧ NObj hf a xs o ∧ ty σ H1 fun y H2 => tz σ H2 fun z H3 => ∃ k, TabX X H3 a o ∧ KeyH X H3 y k ∧ (∀ p ∈ xs, KeyH X H3 p.2.1 p.1) ∧
  (xs.any (fun p => decide (p.1 = k)) = false → Q z H3) ∧ ∀ (j : Nat) (kv v : V), xs[j]? = some (k, kv, v) → Q v H3
theorem pe_getD {X : Cx} {o e f : Expr} {td ty tz : TE} {hf : NK → Int} {apos cpos : Pos} (hw : hf = fun k => k.hash X.w) (hu : X.A.units + 9 < cLine) (ho : PE X o td) (he : PE X e ty) (hf' : PE X f tz) (m : M2 X o "get" apos e f cpos) : PE X (.Call (.Attribute o "get" apos) [e, f] [] cpos) (tGetD hf X td ty tz) := by
  refine ⟨fun pins s σ H Q I h => ?_⟩
  refine wpAny_Call_method m.base m.few m.line PySem.F.plainAttrs_dict PySem.F.slot_dict_get PySem.F.type_dict_get (thn (ho.run pins s σ H _ I h) fun u s1 ⟨x, H1, I1, rx, a, ob, xs, ex, ea, z, q1⟩ => ?_)
  subst ex
  obtain rfl : u = Value.ref a := rx
  obtain ⟨es, ep, d, _⟩ := id z.da
  have g := tabx_at I1 ea
  have raw : s1.heap.DictRaw a es ep := ⟨ob, g, z.ed, d⟩
  refine ⟨raw.typeIs, fun b eb => by cases eb; exact ⟨ob, g, z.ed.2.1⟩, ?_⟩
  rw [m.trees]
  refine Calls.callWith_builtin rfl (Calls.evalArgs_plain (Calls.spliced_cons (thn (he.run pins s1 σ H1 _ I1 q1) fun iv s2 ⟨y, H2, I2, ry, q2⟩ => Calls.spliced_cons (thn (hf'.run pins s2 σ H2 _ I2 q2) fun dv s3 ⟨zv, H3, I3, rz, k, ea3, hk, ks, q0, q3⟩ => Calls.spliced_nil ?_))))
  obtain ⟨⟨es2, ep2, ys, T, rr⟩⟩ := ntbx_of hw I3 ea3 z ks
  refine Mk.getOr_ hu (hk pins σ s3 iv I3 ry) T z.ed z.sm (fun n => ?_) fun j p e => ?_
  · refine ⟨zv, H3, I3.tok _, rz, q0 ?_⟩
    rw [pair_any rr]
    refine Bool.eq_false_iff.mpr fun c => ?_
    obtain ⟨y, my, ey⟩ := List.any_eq_true.mp c
    obtain ⟨j, hj⟩ := List.mem_iff_getElem?.mp my
    exact n j y.2 (by rw [hj, ← of_decide_eq_true ey])
  · obtain ⟨⟨k', kv, v⟩, hx, r1, _, r3⟩ := pair_at2 rr e
    dsimp only at r1 r3
    subst r1
    exact ⟨v, H3, I3.tok _, r3, q3 j kv v hx⟩
def getDN (kvs : List (D × D)) (y z : D) : T D := match nkD y with
  | some k => .ret ((valN kvs k).getD z)
  | none => .fail
def qGetW (kvs : List (D × D)) (mb mc : Env → T D) : Env → T D := fun env => (mb env).bind fun y => (mc env).bind (getDN kvs y)
section
variable {X : Cx} {G : GC} {W : WX} {e f o : Expr} {m mb mc : Env → T D} {apos cpos : Pos}
theorem getD_fin {σ : St} {env : Env} {us : List Addr} {C : Cf} {n : Nat} {H3 : Hp} {Q : VK} {ds : List (D × D)} {vs : List (NK × V × V)} {k : NK} {d3 : D} {z : V} (nd : (vs.map (·.1)).Nodup) (l : RepN G C H3 vs ds) (r3 : Rep G C H3 z d3) (h : At G W (rV G false) σ env us C n H3 (T.ret ((valN ds k).getD d3)) Q) :
    (vs.any (fun p => decide (p.1 = k)) = false → Q z H3) ∧ ∀ (j : Nat) (kv v : V), vs[j]? = some (k, kv, v) → Q v H3 := by
  refine ⟨fun hn => ?_, fun j kv v hj => ?_⟩
  · cases e1 : valN ds k with
    | none => rw [e1] at h; exact h.ret (r3.view false)
    | some d =>
      obtain ⟨j, kv, v, hj, _⟩ := l.val e1
      have : vs.any (fun p => decide (p.1 = k)) = true := List.any_eq_true.mpr ⟨_, List.mem_of_getElem? hj, by simp⟩
      rw [hn] at this
      cases this
  · cases e1 : valN ds k with
    | none =>
      have := l.none e1
      rw [List.any_eq_true.mpr ⟨_, List.mem_of_getElem? hj, by simp⟩] at this
      cases this
    | some d =>
      rw [e1] at h
      exact h.ret ((RepN.one nd l e1 j kv v hj).view false)
/-- a dict of the module -/
def WDict (G : GC) (mg : Str → Option Value) (x : Str) (kvs : List (D × D)) : Prop := ∃ a o vs, mg x = some (.ref a) ∧ G.K.lookup a = some o ∧ NObj G.hN a vs o ∧ ∀ C H, RepN G C H vs kvs
variable {x : Str} {p : Pos} {kvs : List (D × D)}
theorem s_getW (hk : X.K = G.K) (hw : G.hN = fun k => k.hash X.w) (hu : X.A.units + 9 < cLine) (hg : Gl X x) (hm : WDict G X.mg x kvs) (he : PE X e (tQ G W false mb)) (hf : PE X f (tQ G W false mc)) (mm : M2 X (.Name x p) "get" apos e f cpos := by exact ⟨by rfl, by rfl, by rfl, by rfl⟩) (hd : (x == ("__debug__" : Str)) = false := by decide) :
    PE X (.Call (.Attribute (.Name x p) "get" apos) [e, f] [] cpos) (tQ G W false (qGetW kvs mb mc)) := by
  obtain ⟨a, o, vs, hx, hl, z, hr⟩ := hm
  have ho : PE X (.Name x p) (fun _ H Q => Q (.ref a) H) := ⟨fun pins s σ H Q I q => ld_glob I hg hx ⟨.ref a, H, I.tok _, rfl, q⟩ hd⟩
  refine PE.imp (pe_getD (hf := G.hN) hw hu ho he hf mm) fun σ H Q h => ?_
  obtain ⟨C, n, env, us, h⟩ := h
  refine ⟨a, o, vs, rfl, .inr (by rw [hk]; exact hl), z, C, n, env, us, (h.bind (R := rV G false)).imp ?_⟩
  rintro y H2 ⟨C2, n2, d2, s2, r2, h2⟩
  refine ⟨C2, n2, env, us, (h2.bind (R := rV G false)).imp ?_⟩
  rintro zv H3 ⟨C3, n3, d3, s3, r3, h3⟩
  have r2 := r2.unview.nx s3.nx
  have r3 := r3.unview
  have l' := hr C3 H3
  cases q : nkD d2 with
  | none => unfold getDN at h3; rw [q] at h3; exact h3.no.elim
  | some k =>
    replace h3 : At G W (rV G false) σ env us C3 n3 H3 (T.ret ((valN kvs k).getD d3)) Q := by unfold getDN at h3; rw [q] at h3; exact h3
    exact ⟨k, .inr (by rw [hk]; exact hl), r2.keyH hk q, l'.keys hk, getD_fin z.nd l' r3 h3⟩
end
def mdD (kvs : List (Int × Str)) : List (D × D) := kvs.map fun p => (.int p.1, .str p.2)
def mdV (kvs : List (Int × Str)) : List (NK × V × V) := kvs.map fun p => (.num p.1, .int p.1, .str p.2)
theorem mdEs_ok {hf : NK → Int} (hn : ∀ i, hf (.num i) = hashInt i) : ∀ {kvs : List (Int × Str)} {es : List DictEntry}, mdEs kvs es = true → ∃ ys : List (NK × Value × Value), es = ys.map (entF hf) ∧ Paired (fun (p : NK × V × V) (q : NK × Value × Value) => p.1 = q.1 ∧ L2.RelV p.2.1 q.2.1 ∧ L2.RelV p.2.2 q.2.2) (mdV kvs) ys
  | [], [], _ => ⟨[], rfl, .nil⟩
  | [], _ :: _, h => by simp [mdEs] at h
  | _ :: _, [], h => by simp [mdEs] at h
  | (i, x) :: kvs, ⟨h, k, v⟩ :: es, q => by
    cases k <;> try (simp [mdEs] at q; done)
    rename_i j t
    cases v <;> try (simp [mdEs] at q; done)
    rename_i y t2
    rw [mdEs] at q
    simp only [Bool.and_eq_true, decide_eq_true_eq] at q
    obtain ⟨rfl, rfl, rfl, q⟩ := q
    obtain ⟨ys, e, r⟩ := mdEs_ok hn q
    refine ⟨(.num i, .int i t, .str x t2) :: ys, ?_, .cons ⟨rfl, ⟨t, rfl⟩, ⟨t2, rfl⟩⟩ r⟩
    rw [List.map_cons, ← e]
    unfold entF
    rw [hn]
theorem mdV_rep {G : GC} {C : Cf} {H : Hp} : ∀ (kvs : List (Int × Str)), RepN G C H (mdV kvs) (mdD kvs)
  | [] => .nil
  | (i, x) :: kvs => .cons (by show nkD (.int i) = some (.num i); simp [nkD, keyN, NestedKey.depth, Mk.topK]) (.int i) (.str x) (mdV_rep kvs)
theorem mdB_ok {G : GC} {h : Heap} {mg : Str → Option Value} {x : Str} {kvs : List (Int × Str)} (X : G.K.In h) (Gm : h.Ns mainGlobals mg) (hn : ∀ i, G.hN (.num i) = hashInt i) (nd : (kvs.map (·.1)).Nodup) (sz : kvs.length ≤ 1000) (c : mdB x kvs G.K = true) : WDict G mg x (mdD kvs) := by
  unfold mdB at c
  obtain ⟨c1, c2⟩ := Bool.and_eq_true_iff.mp c
  obtain ⟨c2, c3⟩ := Bool.and_eq_true_iff.mp c2
  split at c3
  · rename_i cn es ep sl e
    obtain ⟨q1, q2⟩ := Bool.and_eq_true_iff.mp c3
    obtain ⟨q2, q3⟩ := Bool.and_eq_true_iff.mp q2
    obtain ⟨ys, e1, e2⟩ := mdEs_ok hn q3
    refine ⟨_, _, mdV kvs, He.glo_ok X Gm c1, e, ⟨?_, by simpa using c2, ?_, ⟨congrArg Value.type (of_decide_eq_true q1), rfl, by simpa using q2⟩, es, ep, rfl, ys, e1, e2⟩, fun C H => mdV_rep kvs⟩
    · unfold mdV
      rw [List.length_map, sizeLine_eq]
      omega
    · unfold mdV
      rw [List.map_map]
      have : ((fun x : NK × V × V => x.1) ∘ fun p : Int × Str => ((.num p.1, .int p.1, .str p.2) : NK × V × V)) = fun p : Int × Str => (NestedKey.num p.1 : NK) := rfl
      rw [this]
      have e3 : kvs.map (fun p : Int × Str => (NestedKey.num p.1 : NK)) = (kvs.map (·.1)).map NestedKey.num := by rw [List.map_map]; rfl
      rw [e3]
      exact List.Pairwise.map NestedKey.num (fun a b h e => h (by cases e; rfl)) nd
  · cases c3
end Pu
set_option Elab.async false
set_option linter.all false
set_option maxRecDepth 100000
set_option maxHeartbeats 4000000
namespace Pu
open PySem L2 Stp NdefX LamX
open PyProof.Rows hiding St
def oDisp2K (mk mv ml mu : Env → T D) : Env → T O := fun env => (mk env).bind fun k => (mv env).bind fun d => (ml env).bind fun l => (mu env).bind fun e => match keyD k, keyD l with
  | some kk, some ll => if kk = ll then .fail else .ret (.dk [(kk, d), (ll, e)])
  | _, _ => .fail
section
variable {X : Cx} {G : GC} {W : WX} {e v f u : Expr} {mk mv ml mu : Env → T D} {pos : Pos}
theorem n_disp2K (hk : PE X e (tQ G W false mk)) (hv : PE X v (tQ G W false mv)) (hl : PE X f (tQ G W false ml)) (hu : PE X u (tQ G W false mu)) : PE X (.Dict [some e, some f] [v, u] pos) (tN G W (oDisp2K mk mv ml mu)) := by
  refine PE.imp (pe_disp (pps_cons hk hv (pps_cons hl hu pps_nil)) rfl rfl (by simp) (by simp)) fun σ H Q h p hp => ?_
  obtain ⟨C, n, env, us, h⟩ := h
  have s0 := step_tup (C := C) (o := .dK []) hp
  have w0 := h.ok.wf.tup (o := .dK []) hp
  have nf0 : ¬ C.F p := fun z => by
    obtain ⟨⟨o, e, _⟩, _⟩ := h.ok.wf.fz p z
    rw [hp] at e; cases e
  have np0 : p ∉ C.pa := h.ok.wf.pne hp
  have k0 := h.ok.q s0 w0
  refine ⟨C, n, env, us, k0, T.wp_mono (T.wp_bind h.wp) ?_ fun e m _ z C' H' cls dx s' wf r => z C' H' cls dx (s0.trans s' (by simp)) wf r⟩
  intro d1 n1 _ z1 C1 H1 x s1 w1 r1
  have k1 := k0.q s1 w1
  refine ⟨C1, n1, env, us, k1, T.wp_mono (T.wp_bind z1) ?_ fun e m _ z C' H' cls dx s' wf r => z C' H' cls dx (s0.trans (s1.trans s' (by simp)) (by simp)) wf r⟩
  intro d2 n2 _ z2 C2 H2 y s2 w2 r2
  have k2 := k1.q s2 w2
  refine ⟨C2, n2, env, us, k2, T.wp_mono (T.wp_bind z2) ?_ fun e m _ z C' H' cls dx s' wf r => z C' H' cls dx (s0.trans (s1.trans (s2.trans s' (by simp)) (by simp)) (by simp)) wf r⟩
  intro d3 n3 _ z3 C3 H3 x3 s3 w3 r3
  have k3 := k2.q s3 w3
  refine ⟨C3, n3, env, us, k3, T.wp_mono (T.wp_bind z3) ?_ fun e m _ z C' H' cls dx s' wf r => z C' H' cls dx (s0.trans (s1.trans (s2.trans (s3.trans s' (by simp)) (by simp)) (by simp)) (by simp)) wf r⟩
  intro d4 n4 _ z4 C4 H4 y4 s4 w4 r4
  have r1 := ((r1.unview.nx s2.nx).nx s3.nx).nx s4.nx
  have r2 := ((r2.unview.nx s3.nx).nx s4.nx)
  have r3 := (r3.unview.nx s4.nx)
  have s14 := s1.trans (s2.trans (s3.trans s4 (by simp)) (by simp)) (by simp)
  have hp4 : H4 p = some (.dK []) := s14.kp p _ upd_same (fun _ z => nomatch z) (by simp) np0
  have nf4 : ¬ C4.F p := fun z => by
    rcases s14.fn p z with z | z | z
    · exact nf0 z
    · cases z
    · rw [upd_same] at z; cases z
  have np4 : p ∉ C4.pa := fun z => by
    rcases s14.pf p z with z | z
    · exact np0 z
    · rw [upd_same] at z; cases z
  cases q : keyD d1 with
  | none => rw [q] at z4; exact z4.elim
  | some kk =>
    cases q2 : keyD d3 with
    | none => rw [q, q2] at z4; exact z4.elim
    | some ll =>
      rw [q, q2] at z4
      dsimp only at z4
      by_cases ne : kk = ll
      · rw [if_pos ne] at z4; exact z4.elim
      rw [if_neg ne] at z4
      have ek := r1.key q
      have el := r3.key q2
      have em : mergeK [] [(kk, y), (ll, y4)] = [(kk, y), (ll, y4)] := by simp [mergeK, putK, ne]
      have s5 := step_mut (u' := .dK [(kk, y), (ll, y4)]) nf4 hp4 (fun _ z => nomatch z) (fun _ _ z => nomatch z) (fun _ z => nomatch z)
      have w5 := w4.mut (o' := .dK [(kk, y), (ll, y4)]) hp4 nf4 np4 (fun _ z => nomatch z) (fun _ z => nomatch z)
      refine ⟨hp4, [(kk, y), (ll, y4)], by rw [ek, el]; rfl, by simp, ?_⟩
      rw [em]
      refine z4 C4 (upd H4 p (.dK [(kk, y), (ll, y4)])) (.ref p) ((s0.trans s14 (by simp)).trans s5 fun a m => .inr (by rw [List.mem_singleton.mp m]; exact hp)) w5 ⟨[p], .dk upd_same (.cons (r2.nx s5.nx) (.cons (r4.unview.nx s5.nx) .nil)), by simp, fun a m => ?_⟩
      rw [List.mem_singleton.mp m]
      exact ⟨nf4, np4, hp, _, upd_same, fun _ z => nomatch z⟩
end
def getDK (kvs : List (Key × D)) (y z : D) : T D := match keyD y with
  | some k => .ret ((valD kvs k).getD z)
  | none => .fail
def qGetDK (m mb mc : Env → T D) : Env → T D := fun env => (m env).bind fun d => match d with
  | .dK kvs => (mb env).bind fun y => (mc env).bind (getDK kvs y)
  | _ => .fail
section
variable {X : Cx} {G : GC} {W : WX} {e f o : Expr} {m mb mc : Env → T D} {apos cpos : Pos}
theorem s_getDK (hu : X.A.units + 1 < cLine) (ho : PE X o (tQ G W false m)) (he : PE X e (tQ G W false mb)) (hf : PE X f (tQ G W false mc)) (mm : M2 X o "get" apos e f cpos := by exact ⟨by rfl, by rfl, by rfl, by rfl⟩) : PE X (.Call (.Attribute o "get" apos) [e, f] [] cpos) (tQ G W false (qGetDK m mb mc)) := by
  refine PE.imp (pe_dget2 hu ho he hf mm) fun σ H Q h => ?_
  obtain ⟨C, n, env, us, h⟩ := h
  refine ⟨C, n, env, us, (h.bind (R := rV G false)).imp ?_⟩
  rintro v H1 ⟨C1, n1, d, s1, r1, h1⟩
  have r1 := r1.unview
  cases r1 <;> try exact h1.no.elim
  case dK p vs ds fp hp l =>
    have h1 : At G W (rV G false) σ env us C1 n1 H1 ((mb env).bind fun y => (mc env).bind (getDK ds y)) Q := h1
    refine ⟨p, rfl, .inl ⟨vs, .inl hp⟩, C1, n1, env, us, (h1.bind (R := rV G false)).imp ?_⟩
    rintro y H2 ⟨C2, n2, d2, s2, r2, h2⟩
    refine ⟨C2, n2, env, us, (h2.bind (R := rV G false)).imp ?_⟩
    rintro zv H3 ⟨C3, n3, d3, s3, r3, h3⟩
    have r2 := r2.unview.nx s3.nx
    have r3 := r3.unview
    have nx := s2.nx.trans s3.nx
    have h' := (nx.fk p _ fp hp fun _ z => nomatch z).2
    have l' := l.nx nx
    cases q : keyD d2 with
    | none => unfold getDK at h3; rw [q] at h3; exact h3.no.elim
    | some k =>
      replace h3 : At G W (rV G false) σ env us C3 n3 H3 (T.ret ((valD ds k).getD d3)) Q := by unfold getDK at h3; rw [q] at h3; exact h3
      rw [r2.key q]
      refine ⟨_, DGet.k h', ?_⟩
      obtain ⟨l0, l1⟩ := l'.val k
      cases e1 : valD ds k with
      | none => rw [l0 e1]; rw [e1] at h3; exact h3.ret (r3.view false)
      | some d =>
        obtain ⟨v, e2, rv⟩ := l1 d e1
        rw [e2]
        rw [e1] at h3
        exact h3.ret (rv.view false)
end
end Pu
set_option Elab.async false
set_option linter.all false
set_option maxRecDepth 100000
set_option maxHeartbeats 4000000
namespace Pu
open PySem L2 Stp NdefX LamX
open PyProof.Rows hiding St
def lamP (f : Addr) (L : LamD) (cl : List (Str × Addr)) (c' : Addr) : Heap → Prop := fun h => ∃ (od : Option Addr) (sl : Array (Option Value)) (pm ctv : Value), h.get? f = some (⟨.type "function", od, .func (PySem.W.kla_fn "<lambda>" L.qual L.params L.body L.scope cl pm (.ref c') ctv), sl⟩ : Obj)
def codeP (c : Addr) (q : Str) : Heap → Prop := fun h => ∃ (oc : Obj) (vs : Array Value) (t : Tok), h.get? c = some oc ∧ oc.data = .fields vs ∧ vs[1]? = some (.str q t)
def lamSx (f : Addr) (L : LamD) (cl : List (Str × Addr)) (c' : Addr) : Nat → List (Addr × (Heap → Prop)) := fun _ => [(f, lamP f L cl c'), (c', codeP c' L.qual)]
def noSx : Nat → List (Addr × (Heap → Prop)) := fun _ => []
abbrev GC.lam (G : GC) (f : Addr) (L : LamD) (cl : List (Str × Addr)) (c' : Addr) : GC := G.ats [f] (lamSx f L cl c')
abbrev GC.no (G : GC) : GC := G.ats [] noSx
section
variable {G : GC} {C : Cf} {H : Hp} {st : List Addr} {sx : Nat → List (Addr × (Heap → Prop))}
mutual
theorem Rep.ups : ∀ {v : V} {d : D}, Rep G.no C H v d → Rep (G.ats st sx) C H v d
  | _, _, .non => .non
  | _, _, .bl b => .bl b
  | _, _, .int i => .int i
  | _, _, .str x => .str x
  | _, _, .tup h l => .tup h (RepL.ups l)
  | _, _, .wt h l => .wt h (RepL.ups l)
  | _, _, .lst f h l => .lst f h (RepL.ups l)
  | _, _, .dK f h l => .dK f h (RepK.ups l)
  | _, _, .dT f h l => .dT f h (RepT.ups l)
  | _, _, .dN f h z l => .dN f h z (RepN.ups l)
  | _, _, .obj f h c l => .obj f h c (RepF.ups l)
  | _, _, .exc h c => .exc h c
  | _, _, .fn h l => .fn h (RepL.ups l)
  | _, _, .ty x => .ty x
  | _, _, .cls c => .cls c
  | _, _, .pen h => .pen h
  | _, _, .scr h => .scr h
  | _, _, .bw h l => .bw h (RepL.ups l)
  | _, _, .rf h => by obtain ⟨h, _⟩ := h; simp [GC.ats] at h
theorem RepL.ups : ∀ {v : List V} {d : List D}, RepL G.no C H v d → RepL (G.ats st sx) C H v d
  | _, _, .nil => .nil
  | _, _, .cons h l => .cons (Rep.ups h) (RepL.ups l)
theorem RepK.ups : ∀ {v : List (Key × V)} {d : List (Key × D)}, RepK G.no C H v d → RepK (G.ats st sx) C H v d
  | _, _, .nil => .nil
  | _, _, .cons h l => .cons (Rep.ups h) (RepK.ups l)
theorem RepT.ups : ∀ {v : List (List Key × V)} {d : List (List Key × D)}, RepT G.no C H v d → RepT (G.ats st sx) C H v d
  | _, _, .nil => .nil
  | _, _, .cons h l => .cons (Rep.ups h) (RepT.ups l)
theorem RepN.ups : ∀ {v : List (NestedKey × V × V)} {d : List (D × D)}, RepN G.no C H v d → RepN (G.ats st sx) C H v d
  | _, _, .nil => .nil
  | _, _, .cons e k h l => .cons e (Rep.ups k) (Rep.ups h) (RepN.ups l)
theorem RepF.ups : ∀ {v : List (Str × V)} {d : List (Str × D)}, RepF G.no C H v d → RepF (G.ats st sx) C H v d
  | _, _, .nil => .nil
  | _, _, .cons h l => .cons (Rep.ups h) (RepF.ups l)
end
theorem OwnL.ups : ∀ {as : List Addr} {ds : List (List D)}, OwnL G.no C H as ds → OwnL (G.ats st sx) C H as ds
  | _, _, .nil => .nil
  | _, _, .cons h r l => .cons h r.ups (OwnL.ups l)
theorem OwnF.ups : ∀ {vs : List (Str × V)} {fs : List (Str × FO)} {us : List Addr}, OwnF G.no C H vs fs us → OwnF (G.ats st sx) C H vs fs us
  | _, _, _, .nil => .nil
  | _, _, _, .fz r l => .fz r.ups (OwnF.ups l)
  | _, _, _, .ls h r l => .ls h r.ups (OwnF.ups l)
  | _, _, _, .dk h r l => .dk h r.ups (OwnF.ups l)
  | _, _, _, .dt h r l => .dt h r.ups (OwnF.ups l)
theorem OwnR.ups {v : V} {o : O} {us : List Addr} (r : OwnR G.no C H v o us) : OwnR (G.ats st sx) C H v o us := by
  cases r with
  | fz h => exact .fz h.ups
  | ls h l => exact .ls h l.ups
  | dk h l => exact .dk h l.ups
  | dt h l => exact .dt h l.ups
  | dn h z l => exact .dn h z l.ups
  | ll h l => exact .ll h l.ups
  | ob h c l => exact .ob h c l.ups
  | mo e h c l => exact .mo e h c l.ups
  | me e h c l => exact .me e h c l.ups
  | tl h e l hb q => exact .tl h e l.ups hb q.ups
  | gl h e l hb q => exact .gl h e l.ups hb q.ups
theorem EnvR.ups : ∀ {σ : L2.St} {env : Env} {us : List Addr}, EnvR G.no C H σ env us → EnvR (G.ats st sx) C H σ env us
  | _, _, _, .nil => .nil
  | _, _, _, .skip r => .skip (EnvR.ups r)
  | _, _, _, .has r q => .has r.ups (EnvR.ups q)
theorem Wf.ats {n : Nat} {st' : List Addr} {sx' : Nat → List (Addr × (Heap → Prop))} (w : Wf (G.ats st sx) C n H) : Wf (G.ats st' sx') C n H := ⟨w.pen, w.fz, w.tab⟩
theorem Ok.ups {n : Nat} {σ : L2.St} {env : Env} {us : List Addr} (k : Ok G.no C n σ env us H) : Ok (G.ats st sx) C n σ env us H := ⟨k.wf.ats, k.env.ups, k.nd, k.us⟩
variable {st' : List Addr} {sx' : Nat → List (Addr × (Heap → Prop))}
mutual
theorem Rep.dns : ∀ {v : V} {d : D}, Rep (G.ats st sx) C H v d → plainD d = true → Rep (G.ats st' sx') C H v d
  | _, _, .non, _ => .non
  | _, _, .bl b, _ => .bl b
  | _, _, .int i, _ => .int i
  | _, _, .str x, _ => .str x
  | _, _, .tup h l, e => .tup h (RepL.dns l (by simpa [plainD] using e))
  | _, _, .wt h l, e => .wt h (RepL.dns l (by simpa [plainD] using e))
  | _, _, .lst f h l, e => .lst f h (RepL.dns l (by simpa [plainD] using e))
  | _, _, .dK f h l, e => .dK f h (RepK.dns l (by simpa [plainD] using e))
  | _, _, .dT f h l, e => .dT f h (RepT.dns l (by simpa [plainD] using e))
  | _, _, .dN f h z l, e => by simp [plainD] at e
  | _, _, .obj f h c l, e => .obj f h c (RepF.dns l (by simpa [plainD] using e))
  | _, _, .exc h c, e => by simp [plainD] at e
  | _, _, .fn h l, e => by simp [plainD] at e
  | _, _, .ty x, _ => .ty x
  | _, _, .cls c, _ => .cls c
  | _, _, .pen h, _ => .pen h
  | _, _, .scr h, _ => .scr h
  | _, _, .bw h l, e => by simp [plainD] at e
  | _, _, .rf h, e => by simp [plainD] at e
theorem RepL.dns : ∀ {v : List V} {d : List D}, RepL (G.ats st sx) C H v d → plainL d = true → RepL (G.ats st' sx') C H v d
  | _, _, .nil, _ => .nil
  | _, _, .cons h l, e => .cons (Rep.dns h (by simp only [plainL, Bool.and_eq_true] at e; exact e.1)) (RepL.dns l (by simp only [plainL, Bool.and_eq_true] at e; exact e.2))
theorem RepK.dns : ∀ {v : List (Key × V)} {d : List (Key × D)}, RepK (G.ats st sx) C H v d → plainK d = true → RepK (G.ats st' sx') C H v d
  | _, _, .nil, _ => .nil
  | _, _, .cons h l, e => .cons (Rep.dns h (by simp only [plainK, Bool.and_eq_true] at e; exact e.1)) (RepK.dns l (by simp only [plainK, Bool.and_eq_true] at e; exact e.2))
theorem RepT.dns : ∀ {v : List (List Key × V)} {d : List (List Key × D)}, RepT (G.ats st sx) C H v d → plainT d = true → RepT (G.ats st' sx') C H v d
  | _, _, .nil, _ => .nil
  | _, _, .cons h l, e => .cons (Rep.dns h (by simp only [plainT, Bool.and_eq_true] at e; exact e.1)) (RepT.dns l (by simp only [plainT, Bool.and_eq_true] at e; exact e.2))
theorem RepF.dns : ∀ {v : List (Str × V)} {d : List (Str × D)}, RepF (G.ats st sx) C H v d → plainF d = true → RepF (G.ats st' sx') C H v d
  | _, _, .nil, _ => .nil
  | _, _, .cons h l, e => .cons (Rep.dns h (by simp only [plainF, Bool.and_eq_true] at e; exact e.1)) (RepF.dns l (by simp only [plainF, Bool.and_eq_true] at e; exact e.2))
end
theorem RepX.ats {cls : Value} {dx : Option Addr} {e : D} (r : RepX (G.ats st sx) cls dx e) : RepX (G.ats st' sx') cls dx e := r
end
end Pu
set_option Elab.async false
set_option linter.all false
set_option maxRecDepth 100000
set_option maxHeartbeats 4000000
namespace Pu
open PySem L2 Stp NdefX LamX
open PyProof.Rows hiding St
inductive ArgK (G : GC) (C : Cf) (H : Hp) (L : LamD) (cl : List (Str × Addr)) : Option (Addr × Addr) → List V → List D → Prop
  | nil : ArgK G C H L cl none [] []
  | cons {o : Option (Addr × Addr)} {v : V} {d : D} {vs : List V} {ds : List D} : Rep G.no C H v d → ArgK G C H L cl o vs ds → ArgK G C H L cl o (v :: vs) (d :: ds)
  | lam {f c' : Addr} {vs : List V} {ds : List D} : H f = some (LamO f L cl c') → H c' = some (CodeO c' L.qual) → ArgK G C H L cl none vs ds → ArgK G C H L cl (some (f, c')) (.ref f :: vs) (.rf 0 :: ds)
theorem ArgK.nx {G : GC} {C C' : Cf} {H H' : Hp} {L : LamD} {cl : List (Str × Addr)} (n : Nx C C' H H') : ∀ {o : Option (Addr × Addr)} {vs : List V} {ds : List D}, ArgK G C H L cl o vs ds → ArgK G C' H' L cl o vs ds
  | _, _, _, .nil => .nil
  | _, _, _, .cons r l => .cons (r.nx n) (ArgK.nx n l)
  | _, _, _, .lam h1 h2 l => .lam (n.xp _ _ h1 keep_lam) (n.xp _ _ h2 keep_code) (ArgK.nx n l)
theorem ArgK.of {G : GC} {C : Cf} {H : Hp} {L : LamD} {cl : List (Str × Addr)} : ∀ {vs : List V} {ds : List D}, RepL G.no C H vs ds → ArgK G C H L cl none vs ds
  | _, _, .nil => .nil
  | _, _, .cons r l => .cons r (ArgK.of l)
theorem ArgK.rep0 {G : GC} {C : Cf} {H : Hp} {L : LamD} {cl : List (Str × Addr)} {st : List Addr} {sx : Nat → List (Addr × (Heap → Prop))} : ∀ {vs : List V} {ds : List D}, ArgK G C H L cl none vs ds → RepL (G.ats st sx) C H vs ds
  | _, _, .nil => .nil
  | _, _, .cons r l => .cons r.ups (ArgK.rep0 l)
theorem ArgK.rep {G : GC} {C : Cf} {H : Hp} {L : LamD} {cl : List (Str × Addr)} {f c' : Addr} : ∀ {vs : List V} {ds : List D}, ArgK G C H L cl (some (f, c')) vs ds → RepL (G.lam f L cl c') C H vs ds
  | _, _, .cons r l => .cons r.ups (ArgK.rep l)
  | _, _, .lam h1 h2 l => .cons (.rf ⟨rfl, fun p m => by
      rcases List.mem_cons.mp m with rfl | m
      · exact ⟨h1, keep_lam⟩
      · rw [List.mem_singleton.mp m]; exact ⟨h2, keep_code⟩⟩) (ArgK.rep0 l)
def clX (X : Cx) (L : LamD) : List (Str × Addr) := cloFrom X.env.cells L.scope.names []
def rAK (X : Cx) (G : GC) (L : LamD) : RR (List D) (List V) := fun C H vs ds => ∃ o, ArgK G C H L (clX X L) o vs ds
def tAK (X : Cx) (G : GC) (W : WX) (L : LamD) (m : Env → T (List D)) : TA := fun σ H Q => ∃ C n env us, At G.no W (rAK X G L) σ env us C n H (m env) Q
def aLamK (k : Env → T (List D)) : Env → T (List D) := fun env => (k env).bind fun ds => .ret (.rf 0 :: ds)
section
variable {X : Cx} {G : GC} {W : WX} {L : LamD} {x : Str} {p pos : Pos} {e : Expr} {es : List Expr} {m : Env → T D} {ma : Env → T (List D)}
theorem ak_cons (ha : PE X e (tQ G.no W false m)) (hr : PA X es (tAK X G W L ma)) (hs : starEach (e :: es) X.env = (false, eval e X.env) :: starEach es X.env := by rfl) : PA X (e :: es) (tAK X G W L (aCons m ma)) := by
  refine PA.imp (pa_cons ha hr hs) fun σ H Q h => ?_
  obtain ⟨C, n, env, us, h⟩ := h
  refine ⟨C, n, env, us, (h.bind (R := rV G.no false)).imp ?_⟩
  rintro v H1 ⟨C1, n1, d, s1, r1, h1⟩
  refine ⟨C1, n1, env, us, (h1.bind (R := rAK X G L)).imp ?_⟩
  rintro vs H2 ⟨C2, n2, ds, s2, ⟨o, r2⟩, h2⟩
  exact h2.ret ⟨o, .cons (r1.unview.nx s2.nx) r2⟩
theorem ak_lam {nm : Nat → Nat → Str} {c P : Addr} (TB : TabB X.base X.mg c P) (hcode : X.env.code = .ref c) (hq : L.qual = X.env.qual ++ "<lambda>")
    (hm : (P, nm) ∈ G.T) (hn : nm pos.line pos.col = L.qual) (hu : ∀ p ∈ G.T, p.1 = P → p.2 = nm) (hdef : defaultsOf L.params X.env = ([], [])) (hfree : ∀ y ∈ L.scope.names, y.2 = .free → X.env.scope.names.lookup y.1 = some .cell ∨ X.env.scope.names.lookup y.1 = some .free)
    (hr : PA X es (tA G.no W false ma)) (hs : starEach (.Lambda L.params L.body L.scope pos :: es) X.env = (false, eval (.Lambda L.params L.body L.scope pos) X.env) :: starEach es X.env := by rfl) : PA X (.Lambda L.params L.body L.scope pos :: es) (tAK X G W L (aLamK ma)) := by
  refine PA.imp (pa_cons (pe_lamE TB hcode hq hm hn hu hdef hfree) hr hs) fun σ H Q h => ?_
  obtain ⟨C, n, env, us, h⟩ := h
  refine ⟨h.ok.wf.tab, fun f c' H1 x1 x2 x3 x4 x5 x6 => ?_⟩
  have st : Step [] C H C H1 := by
    refine ⟨fun a o e t _ _ => x1 a o e t, fun a o e => ?_, ⟨fun a o f e t => ⟨f, x1 a o e t⟩, fun a xs e => x1 a _ e (fun _ z => by cases z), fun a o u e => x1 a _ e (fun _ z => by cases z), fun a φ e _ => x1 a _ e (fun _ z => by cases z), fun _ h => h⟩, fun a h => .inl h, fun a h => .inl h, rfl⟩
    cases q : H1 a with
    | some o' => exact ⟨o', rfl⟩
    | none => rw [x2 a q] at e; cases e
  have wf1 : Wf G.no C n H1 := by
    refine ⟨fun p c e => ?_, fun a h' => ?_, x3⟩
    · obtain ⟨xs, i, r, ⟨h1, h2, h3⟩, h4⟩ := h.ok.wf.pen p c e
      exact ⟨xs, i, r, ⟨x1 _ _ h1 (fun _ z => by cases z), x1 _ _ h2 (fun _ z => by cases z), h3⟩, h4⟩
    · obtain ⟨⟨o, e, t⟩, np⟩ := h.ok.wf.fz a h'
      exact ⟨⟨o, x1 _ _ e t, t⟩, np⟩
  have k1 := h.ok.q st wf1
  refine ⟨C, n, env, us, k1, T.wp_mono (T.wp_bind h.wp) (fun ds n' _ z C' H' vs s w r => ?_) (fun e n' _ z C' H' cls dx s w r => z C' H' cls dx (st.trans s (by simp)) w r)⟩
  exact z C' H' (.ref f :: vs) (st.trans s (by simp)) w ⟨_, .lam (s.nx.xp _ _ x5 keep_lam) (s.nx.xp _ _ x6 keep_code) (.of (r.nx (Nx.unview _ _)))⟩
end
/-- an object that holds the closure -/
def rK (X : Cx) (G : GC) (L : LamD) : RR D V := fun C H v d => ∃ f c', Rep (G.lam f L (clX X L) c') C H v d
def tK (X : Cx) (G : GC) (W : WX) (L : LamD) (m : Env → T D) : TE := fun σ H Q => ∃ C n env us, At G.no W (rK X G L) σ env us C n H (m env) Q
section
variable {X : Cx} {G : GC} {E : XK} {L : LamD} {k c : Nat} {f A : Addr} {fd : FuncData} {ps : List Str} {x : Str} {p pos : Pos} {e : Expr} {es : List Expr} {ma : Env → T (List D)} {mi : Nat → List (Str × D) → List D → T (List (Str × D))}
theorem s_kind (tk : Takes X (fun cls d _ H => E cls d H)) (hA : G.cA c = some A) (M : Mk X.K A f) (F : ∀ st sx, FnOk X.prog X.w X.K X.mg X.base (L2.CX X.prog X.w) k f fd ps (spI (G.ats st sx) ps.length mi)) (hr : Room (k + 1) X.A) (hg : Gl X x) (hm : X.mg x = some (.ref A)) (hb : Binds X.K fd ps [])
    (ha : PA X (e :: es) (tAK X G (fun cls d _ H => E cls d H) L ma)) (hdb : (x == ("__debug__" : Str)) = false := by decide) (he : starEach (e :: es) X.env = (false, eval e X.env) :: starEach es X.env := by rfl) (hpl : (backTo pos (starEach es X.env)).any (·.1) = false := by rfl) :
    PE X (.Call (.Name x p) (e :: es) [] pos) (tK X G (fun cls d _ H => E cls d H) L (qN (fun ds => grd (ds.length + 1 = ps.length) ((mi c [] ds).bind fun fs => .ret (.obj c fs))) ma)) := by
  have F' : FnOk X.prog X.w X.K X.mg X.base (L2.CX X.prog X.w) k f fd ps (fun vs H Q E => ∃ st sx, spI (G.ats st sx) ps.length mi vs H Q E) :=
    ⟨fun vs H Q E ⟨st, sx, h⟩ => (F st sx).len vs H Q E h, fun A outer s H args us vs Q E hr he hb hv ⟨st, sx, hs⟩ => (F st sx).run A outer s H args us vs Q E hr he hb hv hs⟩
  refine PE.imp (pe_make M F' hr hg hm hb .nil (fun pins σ H s e s' I c => passAt tk σ pins H s e s' I c) ha hdb he hpl) fun σ H Q h => ?_
  obtain ⟨C, n, env, us, h⟩ := h
  refine ⟨C, n, env, us, (h.bind (R := rAK X G L)).imp ?_⟩
  rintro vs H1 ⟨C1, n1, ds, s1, ⟨o, r1⟩, h1⟩ a dx ha' hdx ne
  obtain ⟨hl, h1⟩ := h1.grd
  have s2 := step_tup (C := C1) (o := .own a) hdx
  have w2 := h1.ok.wf.tup (o := .own a) hdx
  have ha2 : upd H1 dx (.own a) a = none := by rw [upd_ne (Ne.symm ne)]; exact ha'
  have s3 := s2.trans (step_tup (C := C1) (o := .ins A dx []) ha2) (by simp)
  have w3 := w2.tup (o := .ins A dx []) ha2
  have nfa : ¬ C1.F a := fun z => by
    obtain ⟨⟨o, e, _⟩, _⟩ := h1.ok.wf.fz a z
    rw [ha'] at e; cases e
  rw [List.append_nil]
  obtain ⟨fl, cl', sx, hsx, r1⟩ : ∃ (fl cl' : Addr) (sx : Nat → List (Addr × (Heap → Prop))), (∀ {C : Cf} {H : Hp} {v : V} {d : D}, Rep (G.ats [fl] sx) C H v d → rK X G L C H v d) ∧ RepL (G.ats [fl] sx) C1 H1 vs ds := by
    cases o with
    | none => exact ⟨0, 0, lamSx 0 L (clX X L) 0, fun r => ⟨_, _, r⟩, r1.rep0⟩
    | some fc => exact ⟨fc.1, fc.2, _, fun r => ⟨_, _, r⟩, r1.rep⟩
  refine ⟨[fl], sx, C1, n1, c, A, dx, a, [], [], vs, ds, rfl, upd_same, hA, .nil, r1.nx s3.nx, hl, w3.ats, nfa, h1.ok.wf.pne ha', T.wp_mono (T.wp_bind h1.wp) ?_ ?_⟩
  · intro fs' n' _ z C' H' vfs' st wf nf np hv rf
    refine ⟨rfl, z ⟨fun b => b = a ∨ C'.F b, C'.pen, C'.me⟩ H' (.ref a) ?_ ?_ (hsx ?_)⟩
    · have keep : ∀ b o, H1 b = some o → upd (upd H1 dx (.own a)) a (.ins A dx []) b = some o := fun b o e => by
        rw [upd_ne (ne_of_none e ha'), upd_ne (ne_of_none e hdx)]; exact e
      refine ⟨fun b o e t n1 n2 => st.kp b o (keep b o e) t (fun z => ne_of_none e ha' (List.mem_singleton.mp z)) n2, fun b o e => st.al b o (keep b o e), ⟨fun b o f e t => ?_, fun b xs e => st.nx.tp b xs (keep _ _ e), fun b o u e => st.nx.fp b o u (keep _ _ e), fun b φ e => st.nx.xp b φ (keep _ _ e), st.nx.pn⟩, fun b z => ?_, fun b z => ?_, st.me⟩
      · obtain ⟨q1, q2⟩ := st.nx.fk b o f (keep b o e) t
        exact ⟨.inr q1, q2⟩
      · rcases z with z | z
        · exact .inr (.inr (by rw [z]; exact ha'))
        · rcases st.fn b z with y | y | y
          · exact .inl y
          · exact .inr (.inr (by rw [List.mem_singleton.mp y]; exact ha'))
          · refine .inr (.inr ?_)
            by_cases hb : b = a
            · rw [hb]; exact ha'
            · by_cases hb2 : b = dx
              · rw [hb2]; exact hdx
              · rw [upd_ne hb, upd_ne hb2] at y; exact y
      · rcases st.pf b z with y | y
        · exact .inl y
        · refine .inr ?_
          by_cases hb : b = a
          · rw [hb]; exact ha'
          · by_cases hb2 : b = dx
            · rw [hb2]; exact hdx
            · rw [upd_ne hb, upd_ne hb2] at y; exact y
    · refine ⟨wf.pen, fun b z => ?_, wf.tab⟩
      rcases z with z | z
      · rw [z]; exact ⟨⟨_, hv, fun _ z => by cases z⟩, np⟩
      · exact wf.fz b z
    · have nxv : Nx C' (⟨fun b => b = a ∨ C'.F b, C'.pen, C'.me⟩ : Cf) H' H' := ⟨fun b o f h _ => ⟨Or.inr f, h⟩, fun _ _ h => h, fun _ _ _ h => h, fun _ _ h _ => h, fun _ h => h⟩
      exact .obj (.inl rfl) hv hA (rf.nx nxv)
  · intro e n' _ z C' H' cls dx' st wf rx
    refine z C' H' cls dx' ?_ wf.ats rx
    have keep : ∀ b o, H1 b = some o → upd (upd H1 dx (.own a)) a (.ins A dx []) b = some o := fun b o e => by
      rw [upd_ne (ne_of_none e ha'), upd_ne (ne_of_none e hdx)]; exact e
    have back : ∀ b, upd (upd H1 dx (.own a)) a (.ins A dx []) b = none → H1 b = none := fun b y => by
      by_cases hb : b = a
      · rw [hb]; exact ha'
      · by_cases hb2 : b = dx
        · rw [hb2]; exact hdx
        · rw [upd_ne hb, upd_ne hb2] at y; exact y
    refine ⟨fun b o e t n1 n2 => st.kp b o (keep b o e) t (fun z => ne_of_none e ha' (List.mem_singleton.mp z)) n2, fun b o e => st.al b o (keep b o e), ⟨fun b o f e t => st.nx.fk b o f (keep b o e) t, fun b xs e => st.nx.tp b xs (keep _ _ e), fun b o u e => st.nx.fp b o u (keep _ _ e), fun b φ e => st.nx.xp b φ (keep _ _ e), st.nx.pn⟩, fun b z => ?_, fun b z => (st.pf b z).elim .inl fun y => .inr (back b y), st.me⟩
    rcases st.fn b z with y | y | y
    · exact .inl y
    · exact .inr (.inr (by rw [List.mem_singleton.mp y]; exact ha'))
    · exact .inr (.inr (back b y))
end
def onlyRt (t : T Fl) : T Fl := t.bind fun r => match r with
  | .rt d => if plainD d = true then .ret (.rt d) else .fail
  | .ex e env => .ret (.ex e (env.map fun _ => none))
  | _ => .fail
def kindS (i : Nat) (m : Env → T D) (mr : Env → T Fl) : Env → T Fl := exS m fun d env => onlyRt (mr (env.set i (some (.fz d))))
theorem env_none {G : GC} {C : Cf} {H : Hp} : ∀ {σ : L2.St} {env : Env}, σ.length = env.length → EnvR G C H σ (env.map fun _ => none) []
  | [], [], _ => .nil
  | [], _ :: _, h => by simp at h
  | _ :: _, [], h => by simp at h
  | s :: σ, o :: env, h => .skip (env_none (by simpa using h))
section
variable {X : Cx} {G : GC} {W : WX} {L : LamD} {i : Nat} {y : Str} {py pos : Pos} {e : Expr} {m : Env → T D} {mr : Env → T Fl} {rest : List Stmt}
theorem PSs.ex {X : Cx} {ss : List Stmt} {ι : Sort _} {t : ι → TS} (h : ∀ i, PSs X ss (t i)) : PSs X ss (fun E σ H => ∃ i, t i E σ H) := ⟨fun pins s σ H E I ⟨i, hw⟩ => (h i).run pins s σ H E I hw⟩
theorem ss_kind (he : PE X e (tK X G W L m)) (hg : PG X (.Name y py) (gName i)) (hr : ∀ f c' cl, cl = clX X L → PSs X rest (tS (G.lam f L cl c') W mr))
    (hs : swapsWithSole [.Name y py] e pos.line X.env = pure false := by rfl) (hw : swappedStores [.Name y py] e X.env = pure none := by rfl) (h1 : (assignEach [.Name y py] X.env).map (·.2) = [assign (.Name y py) X.env] := by rfl) :
    PSs X (.Assign [.Name y py] e pos :: rest) (tS G.no W (kindS i m mr)) := by
  refine PSs.imp (pss_cons (ps_asg he hg hs hw h1) (PSs.ex fun fc : Addr × Addr => hr fc.1 fc.2 _ rfl)) fun E σ H h => ?_
  obtain ⟨C, n, env, us, h⟩ := h
  refine ⟨C, n, env, us, (h.expr (R := rK X G L)).imp ?_⟩
  rintro v H1 ⟨C1, n1, d, s1, ⟨f, c', r1⟩, h1⟩
  have ok := h1.ok.ups (st := [f]) (sx := lamSx f L (clX X L) c')
  obtain ⟨us', k1, sb⟩ := ok.put r1 i
  refine ⟨(f, c'), C1, n1, _, us', k1, T.wp_mono (T.wp_bind h1.wp) (fun r n' _ z C' H' us2 st hu => ?_) (fun _ _ _ z => z)⟩
  have hu0 : ∀ a ∈ ([] : List Addr), a ∈ us ∨ H1 a = none := fun _ z => nomatch z
  cases r with
  | rt d2 =>
    intro v2 w2 r2
    by_cases hp : plainD d2 = true
    · have z : FlP G.no W C' n' H' [] E (.rt d2) := by
        have z := (show ((if plainD d2 = true then T.ret (Fl.rt d2) else .fail).wp n' _ _) from z)
        rw [if_pos hp] at z
        exact z C' H' [] (st.up fun a m => sb a m) hu0
      exact z v2 w2.ats (r2.dns hp)
    · have z := (show ((if plainD d2 = true then T.ret (Fl.rt d2) else .fail).wp n' _ _) from z)
      rw [if_neg hp] at z
      exact z.elim
  | ex e2 env2 =>
    intro σ2 cls dx ok2 rx
    have z : FlP G.no W C' n' H' [] E (.ex e2 (env2.map fun _ => none)) := z C' H' [] (st.up fun a m => sb a m) hu0
    exact z σ2 cls dx ⟨ok2.wf.ats, env_none ok2.env.len, List.nodup_nil, fun _ m => nomatch m⟩ rx
  | nx env2 => exact z.elim
  | bk env2 => exact z.elim
  | ct env2 => exact z.elim
  | ro o => exact z.elim
end
end Pu
set_option Elab.async false
set_option linter.all false
set_option maxRecDepth 100000
set_option maxHeartbeats 4000000
namespace Pu
open PySem L2 Stp NdefX LamX
open PyProof.Rows hiding St
def subF (e : D) : List (Str × D) → Option (List (Str × D))
  | [] => some []
  | (k, d) :: fs => match d with
    | .rf 0 => (subF e fs).map ((k, e) :: ·)
    | d => if plainD d = true then (subF e fs).map ((k, d) :: ·) else none
def subK (e : D) (d : D) : Option D := if plainD d = true then some d else match d with
  | .obj c fs => (subF e fs).map (.obj c)
  | _ => none
def subKL (e : D) : List D → Option (List D)
  | [] => some []
  | d :: ds => match subK e d, subKL e ds with
    | some d', some ds' => some (d' :: ds')
    | _, _ => none
def isR0 : D → Bool
  | .rf 0 => true
  | _ => false
def hasK (ds : List D) : Bool := ds.any fun d => match d with
  | .obj _ fs => fs.any fun p => isR0 p.2
  | _ => false
def callKq (np : Nat) (mf : List D → T D) (id : Nat) (js : List Nat) (ma : Env → T (List D)) : Env → T D := fun env => (ma env).bind fun ds => match capsD env js with
  | some cs => (match subKL (.fn id cs) ds with
    | some ds' => grd (hasK ds = true) (callL np mf ds')
    | none => .fail)
  | none => .fail
section
variable {G : GC} {C : Cf} {H H' : Hp} {L : LamD} {cl : List (Str × Addr)} {f c' : Addr}
theorem rf_lam {v : V} {k : Nat} (r : Rep (G.lam f L cl c') C H v (.rf k)) : H f = some (LamO f L cl c') ∧ H c' = some (CodeO c' L.qual) := by
  cases r with
  | rf h => exact ⟨(h.2 (f, lamP f L cl c') (List.mem_cons_self ..)).1, (h.2 (c', codeP c' L.qual) (List.mem_cons_of_mem _ (List.mem_cons_self ..))).1⟩
theorem repF_lam : ∀ {vs : List (Str × V)} {fs : List (Str × D)}, RepF (G.lam f L cl c') C H vs fs → (fs.any fun p => isR0 p.2) = true → H f = some (LamO f L cl c') ∧ H c' = some (CodeO c' L.qual)
  | _, _, .nil, e => by simp at e
  | _, _, .cons (d := d) r l, e => by
    rw [List.any_cons, Bool.or_eq_true] at e
    rcases e with e | e
    · cases d <;> try (cases e; done)
      exact rf_lam r
    · exact repF_lam l e
theorem repL_lam : ∀ {vs : List V} {ds : List D}, RepL (G.lam f L cl c') C H vs ds → hasK ds = true → H f = some (LamO f L cl c') ∧ H c' = some (CodeO c' L.qual)
  | _, _, .nil, e => by simp [hasK] at e
  | _, _, .cons (d := d) r l, e => by
    unfold hasK at e
    rw [List.any_cons, Bool.or_eq_true] at e
    rcases e with e | e
    · cases d <;> try (cases e; done)
      cases r with
      | obj _ _ _ l => exact repF_lam l e
    · exact repL_lam l e
variable {e : D}
theorem subF_rep (nx : Nx C C H H') (re : Rep (G.lam f L cl c') C H' (.ref f) e) : ∀ {vs : List (Str × V)} {fs gs : List (Str × D)}, RepF (G.lam f L cl c') C H vs fs → subF e fs = some gs → RepF (G.lam f L cl c') C H' vs gs
  | _, _, _, .nil, q => by cases q; exact .nil
  | _, _, gs, .cons (k := k) (v := v) (d := d) (ds := fs) r l, q => by
    by_cases h0 : d = .rf 0
    · subst h0
      have q3 : (subF e fs).map ((k, e) :: ·) = some gs := q
      rw [Option.map_eq_some_iff] at q3
      obtain ⟨hs, q4, rfl⟩ := q3
      cases r with
      | rf h =>
        have h1 : [f][0]? = some _ := h.1
        cases h1
        exact .cons re (subF_rep nx re l q4)
    · have q5 : (if plainD d = true then (subF e fs).map ((k, d) :: ·) else none) = some gs := by
        unfold subF at q
        split at q
        · exact absurd rfl h0
        · exact q
      by_cases hp : plainD d = true
      · rw [if_pos hp, Option.map_eq_some_iff] at q5
        obtain ⟨hs, q6, rfl⟩ := q5
        exact .cons (r.nx nx) (subF_rep nx re l q6)
      · rw [if_neg hp] at q5; cases q5
theorem subK_rep (nx : Nx C C H H') (re : Rep (G.lam f L cl c') C H' (.ref f) e) {v : V} {d d' : D} (r : Rep (G.lam f L cl c') C H v d) (q : subK e d = some d') : Rep (G.lam f L cl c') C H' v d' := by
  unfold subK at q
  by_cases hp : plainD d = true
  · rw [if_pos hp] at q
    cases q
    exact r.nx nx
  · rw [if_neg hp] at q
    cases d <;> try (cases q; done)
    case obj c fs =>
      have q3 : (subF e fs).map (.obj c) = some d' := q
      rw [Option.map_eq_some_iff] at q3
      obtain ⟨gs, q4, rfl⟩ := q3
      cases r with
      | obj f1 h1 h2 l => exact .obj (nx.fk _ _ f1 h1 fun _ z => nomatch z).1 ((nx.fk _ _ f1 h1 fun _ z => nomatch z).2) h2 (subF_rep nx re l q4)
theorem subKL_rep (nx : Nx C C H H') (re : Rep (G.lam f L cl c') C H' (.ref f) e) : ∀ {vs : List V} {ds ds' : List D}, RepL (G.lam f L cl c') C H vs ds → subKL e ds = some ds' → RepL (G.lam f L cl c') C H' vs ds'
  | _, _, _, .nil, q => by cases q; exact .nil
  | _, _, _, .cons (d := d) (ds := ds) r l, q => by
    unfold subKL at q
    cases q1 : subK e d with
    | none => rw [q1] at q; cases q
    | some d1 =>
      cases q2 : subKL e ds with
      | none => rw [q1, q2] at q; cases q
      | some ds1 =>
        rw [q1, q2] at q
        cases q
        exact .cons (subK_rep nx re r q1) (subKL_rep nx re l q2)
end
section
variable {X : Cx} {G : GC} {W : WX} {LT : Nat → Option LamD} {L : LamD} {k id : Nat} {js : List Nat} {f : Addr} {fd : FuncData} {ps : List Str} {mf : List D → T D} {x : Str} {p pos : Pos} {e : Expr} {es : List Expr} {ma : Env → T (List D)} {fl cl' : Addr}
theorem s_callK {cl : List (Str × Addr)} (hcl : cl = clX X L) (gf : GF (G.lam fl L cl cl') LT) (hL : LT id = some L) (hfn : ∀ x, X.fn x = true) (hfree : ∀ y ∈ L.scope.names, y.2 = .free → X.env.scope.names.lookup y.1 = some .cell ∨ X.env.scope.names.lookup y.1 = some .free) (hfr : ∀ y ∈ L.fr, (y, NameKind.free) ∈ L.scope.names) (hjs : js.map (fun j => X.N[j]?) = L.fr.map some)
    (tk : Takes X W) (F : FnOk X.prog X.w X.K X.mg X.base (L2.CX X.prog X.w) k f fd ps (spM (G.lam fl L cl cl') ps.length mf)) (hr : Room k X.A) (hg : Gl X x) (hm : X.mg x = some (.ref f)) (hk : PySem.W.keepIn X.K (.ref f) = true) (hb : Binds X.K fd ps [])
    (ha : PA X (e :: es) (tA (G.lam fl L cl cl') W false ma)) (hdb : (x == ("__debug__" : Str)) = false := by decide) (he : starEach (e :: es) X.env = (false, eval e X.env) :: starEach es X.env := by rfl) (hpl : (backTo pos (starEach es X.env)).any (·.1) = false := by rfl) :
    PE X (.Call (.Name x p) (e :: es) [] pos) (tQ (G.lam fl L cl cl') W false (callKq ps.length mf id js ma)) := by
  subst hcl
  refine ⟨fun pins s σ H Q I h => ?_⟩
  obtain ⟨C, n, env, own, h⟩ := h
  refine wpAny_Call_Name_kw (ld_glob I hg hm ?_ hdb)
  refine PySem.W.callWith_K (first := []) (h₀ := X.base) I.ok.mod.kin hk (thn (ha.run pos pins s σ H _ I ⟨C, n, env, own, h.bind (R := rA (G.lam fl L (clX X L) cl') false)⟩) fun us s2 ⟨vs, H2, I2, r2, C2, n2, ds, s2', r2', h2⟩ => ⟨I2.kIn, ?_⟩) he hpl
  show wpAny _ _ (call (.ref f) us) _ _ _
  cases q1 : capsD env js with
  | none => rw [q1] at h2; exact h2.no.elim
  | some cs =>
    rw [q1] at h2
    dsimp only at h2
    cases q2 : subKL (.fn id cs) ds with
    | none => rw [q2] at h2; exact h2.no.elim
    | some ds' =>
      rw [q2] at h2
      obtain ⟨hK, h2⟩ := h2.grd
      obtain ⟨hl, h2⟩ := h2.grd
      have r2' := r2'.nx (Nx.unview _ _)
      obtain ⟨e1, e2⟩ := repL_lam r2' hK
      obtain ⟨ct, M⟩ := mask_args gf hL hfn hfree hfr hjs I2 h2.ok (vs := [.ref fl]) (ds := [.fn id cs]) (.lam e1 e2 q1 .nil)
      have nx : Nx C2 C2 H2 (msk H2 ct) := by
        have q : ∀ a o, H2 a = some o → msk H2 ct a = some o := fun a o e => by rw [msk_out (M.un.out e)]; exact e
        exact ⟨fun a o f e _ => ⟨f, q a o e⟩, fun a xs e => q a _ e, fun a o u e => q a _ e, fun a φ e _ => q a _ e, fun _ h => h⟩
      cases M.rp with
      | cons re _ =>
        have M' : Masked X (G.lam fl L (clX X L) cl') C2 n2 H2 s2 vs ds' ct := ⟨M.un, M.at_, M.cel, M.e0, M.wf, subKL_rep nx re r2' q2⟩
        exact run_masked (A' := X.A) tk F hr hb I2 M' r2 hl h2
end
def qCallA (L : LamL) (c : Nat) (m : Str) (mo : Env → T D) (ma : Env → T (List D)) : Env → T D := fun env => (mo env).bind fun o => match o with
  | .obj c' fs => if c' = c then (match fs.lookup m with
    | some (.fn id cs) => (ma env).bind fun ds => callV L (.fn id cs) ds
    | _ => .fail) else .fail
  | _ => .fail
section
variable {X : Cx} {G : GC} {W : WX} {LT : Nat → Option LamD} {L : LamL} {k c : Nat} {A : Addr} {m : Str} {pos apos : Pos} {o e : Expr} {es : List Expr} {mo : Env → T D} {ma : Env → T (List D)}
theorem s_callA {pl : Sem Bool} (hk : X.K = G.K) (gf : GF G LT) (tk : Takes X W) (hr : Room k X.A) (hL : LOks X.prog X.w X.K X.mg X.base G k L) (hA : G.cA c = some A) (hc : Cls G.K A ∧ NoAttr G.K A m) (ho : PE X o (tQ G W false mo)) (ha : PA X (e :: es) (tA G W false ma))
    (hst : starEach (e :: es) X.env = (false, eval e X.env) :: starEach es X.env := by rfl) (hpl : (backTo pos (starEach es X.env)).any (·.1) = false := by rfl)
    (ht : eval (.Call (.Attribute o m apos) (e :: es) [] pos) X.env = (do
      let ov ← eval o X.env
      standAt apos.atName
      let (f, first) ← holding [ov] (getMethod ov m pl)
      callWith pos f first (backTo pos (starEach (e :: es) X.env)) (backToKw pos (keywordEach [] X.env))) := by rfl) :
    PE X (.Call (.Attribute o m apos) (e :: es) [] pos) (tQ G W false (qCallA L c m mo ma)) := by
  refine ⟨fun pins s σ H Q I h => ?_⟩
  obtain ⟨C, n, env, us, h⟩ := h
  refine PySem.W.methodCall_KW (pl := pl) (thn (ho.run pins s σ H _ I ⟨C, n, env, us, h.bind (R := rV G false)⟩) fun u s1 ⟨v, H1, I1, r1, C1, n1, d, s1', r1', h1⟩ => ?_) ht
  have r1' := r1'.unview
  cases r1' <;> try exact h1.no.elim
  case obj a A' dx c' vs ds fp hp hA' l =>
    replace h1 : At G W (rV G false) σ env us C1 n1 H1 (if c' = c then (match ds.lookup m with
      | some (.fn id cs) => (ma env).bind fun ds => callV L (.fn id cs) ds
      | _ => .fail) else .fail) Q := h1
    by_cases hcc : c' = c
    · rw [if_pos hcc] at h1
      subst hcc
      rw [hA] at hA'
      cases hA'
      obtain rfl : u = Value.ref a := r1
      cases q : ds.lookup m with
      | none => rw [q] at h1; exact h1.no.elim
      | some d =>
        obtain ⟨u2, e2, ru⟩ := l.look m q
        rw [q] at h1
        cases d <;> try exact h1.no.elim
        case fn id cs =>
          dsimp only at h1
          cases ru with
          | @fn f _ vs' _ hf rc =>
            refine getmeth_fld I1 hp (by rw [hk]; exact hc.1) (by rw [hk]; exact hc.2) e2 fun u s' I' ru => ?_
            obtain rfl : u = Value.ref f := ru
            refine PySem.W.callWith_F (first := []) (fnAt_lam gf I' hf) (thn (ha.run pos pins s' σ H1 _ I' ⟨C1, n1, env, us, h1.bind (R := rA G false)⟩) fun us' s2 ⟨ws, H2, I2, r2, C2, n2, ds2, s2', r2', h2⟩ => ⟨fnAt_lam gf I2 (G.fnS _ _ _ _ _ hf s2'.nx.xp), ?_⟩) hst hpl
            show wpAny _ _ (call (.ref f) us') _ _ _
            exact run_lam tk hr hL I2 (G.fnS _ _ _ _ _ hf s2'.nx.xp) (rc.nx s2'.nx) r2 (r2'.nx (Nx.unview _ _)) h2
    · rw [if_neg hcc] at h1; exact h1.no.elim
end
end Pu
set_option Elab.async false
set_option linter.all false
set_option maxRecDepth 100000
set_option maxHeartbeats 4000000
namespace Pu
open PySem L2 Stp NdefX LamX
open PyProof.Rows hiding St
def llAppS (i : Nat) (mi m : Env → T D) : Env → T Fl := fun env => ownLL i env fun xss => exS (fun env => (mi env).bind fun a => (ixA xss.length a).bind fun ja => (m env).bind fun d => .ret (d, ja)) (fun p env => grd ((xss.getD p.2 []).length ≤ big) (.ret (.nx (env.set i (some (.ll (xss.set p.2 (xss.getD p.2 [] ++ [p.1])))))))) env
section
variable {X : Cx} {G : GC} {W : WX} {i : Nat} {me mi : Env → T D} {o e ei : Expr} {ap cp pos : Pos}
theorem st_llApp {sp1 : Pos} (hk : X.K = G.K) (hv : PE X o (tVar i)) (hi : PE X ei (tQ G W false mi)) (he : PE X e (tQ G W false me)) (hpl : PlainIx ei := by exact fun _ _ => rfl)
    (hbase : attributeBase (.Subscript o ei sp1) "append" X.env (eval (.Subscript o ei sp1) X.env) = eval (.Subscript o ei sp1) X.env := by rfl)
    (hfew : ((backTo cp (starEach [e] X.env)).all (fun x => !x.1) && (backToKw cp (keywordEach [] X.env)).all (fun x => x.1.isSome) && decide (([e] : List Expr).length + ([] : List Keyword).length + (if ([] : List Keyword).isEmpty then 0 else 1) < 30)) = true := by rfl)
    (hline : (ap.endLine == cp.line) = true := by rfl) (hs : starEach [e] X.env = (false, eval e X.env) :: starEach [] X.env := by rfl) (hplain : (backTo cp (starEach [] X.env)).any (·.1) = false := by rfl)
    (hsw : swapsWith (.Call (.Attribute (.Subscript o ei sp1) "append" ap) [e] [] cp) none pos.line X.env = pure false := by rfl) :
    PS X (.Expr (.Call (.Attribute (.Subscript o ei sp1) "append" ap) [e] [] cp) pos) (tS G W (llAppS i mi me)) := by
  refine PS.imp (ps_expr (pe_bm PySem.F.plainAttrs_list PySem.F.slot_list_append PySem.F.type_list_append mt_append (pe_ix ix_list hv hi hpl) (pa_cons he pa_nil hs) hbase hfew hline hs hplain) hsw) fun E σ H h => ?_
  obtain ⟨C, n, env, us, h⟩ := h
  obtain ⟨xss, e1, w⟩ := ownLL_at h.wp
  obtain ⟨v0, us1, f0, ow, sl⟩ := h.ok.env.atS e1
  cases ow with
  | @ll L as _ hLs owl =>
    have ndu : (L :: as).Nodup := h.ok.nd.sublist sl
    have nd2 := ndu
    rw [List.nodup_cons] at nd2
    have mus : ∀ a ∈ L :: as, a ∈ us := fun a m => sl.subset m
    refine ⟨.ref L, f0, C, n, env, us, h.ok, T.wp_mono (T.wp_bind (T.wp_bindX w)) ?_ ?_⟩
    · intro a n2 _ z2 C2 H2 u s2 w2 r2
      have k2 := h.ok.q s2 w2
      obtain ⟨ka, ja, rfl, eja, z2⟩ := ixA_wp z2
      have keep : ∀ b ∈ L :: as, ∀ x, H b = some x → H2 b = some x := fun b m x e => by
        obtain ⟨_, q2, x', e', t⟩ := h.ok.us b (mus b m)
        rw [e] at e'
        cases e'
        exact s2.kp b x e t (by simp) q2
      have hL2 := keep L (List.mem_cons_self ..) _ hLs
      have ow2 := owl.nx s2.nx fun b m => keep b (List.mem_cons_of_mem _ m)
      obtain ⟨_, hjl, _, _⟩ := ixN_seq eja
      have exs : xss[ja]? = some (xss.getD ja []) := by
        rw [List.getElem?_eq_getElem hjl, List.getD_eq_getElem?_getD, List.getElem?_eq_getElem hjl]
        rfl
      obtain ⟨p, vs, ep, hp, rl⟩ := ow2.at_ exs
      cases r2
      refine ⟨L, as.map V.ref, ka, .ref p, rfl, rfl, ?_, ?_, ?_⟩
      · exact SqL.of hL2
      · unfold atI
        rw [List.length_map, owl.len, eja]
        show (as.map V.ref)[ja]? = _
        rw [List.getElem?_map, ep]
        rfl
      refine ⟨.inl ⟨rfl, vs, SqL.of hp⟩, C2, n2, env, us, k2, T.wp_mono (T.wp_bind z2) ?_ ?_⟩
      · intro d n3 _ z3 C3 H3 v s3 w3 r3
        have k3 := k2.q s3 w3
        have s23 := s2.trans s3 (by simp)
        have keep3 : ∀ b ∈ L :: as, ∀ x, H2 b = some x → H3 b = some x := fun b m x e => by
          obtain ⟨_, q2, x', e', t⟩ := k2.us b (mus b m)
          rw [e] at e'
          cases e'
          exact s3.kp b x e t (by simp) q2
        have mp : p ∈ as := List.mem_of_getElem? ep
        have hp3 := keep3 p (List.mem_cons_of_mem _ mp) _ hp
        have hL3 := keep3 L (List.mem_cons_self ..) _ hL2
        have ow3 := ow2.nx s3.nx fun b m => keep3 b (List.mem_cons_of_mem _ m)
        have rd : Rep G C3 H3 v d := r3.unview
        obtain ⟨hz, z3⟩ := grd_wp z3
        have rl3 := (rl.nx s3.nx).append (.cons rd .nil)
        obtain ⟨k4, s4⟩ := k3.mutP (i := i) (u' := .lst (vs ++ [v])) (o' := .ll (xss.set ja (xss.getD ja [] ++ [d]))) f0 e1 (mus p (List.mem_cons_of_mem _ mp)) hp3 (fun _ z => by cases z) (fun _ _ z => by cases z) (fun _ z => by cases z) (fun _ z => by cases z) fun nx us1 q => by
          obtain ⟨e2, oq⟩ := OwnR.ll_inj (bs := as) hL3 q
          rw [e2]
          refine ⟨List.mem_cons_of_mem _ mp, .ll (by rw [upd_ne (fun z => nd2.1 (by rw [z]; exact mp))]; exact hL3) (OwnL.put nx rl3 oq nd2.2 ep)⟩
        refine ⟨p, vs, v, rfl, rfl, hp3, ?_, ?_⟩
        · rw [rl.length]; exact Nat.lt_of_le_of_lt hz (by decide)
        · exact z3 C3 _ us ((s23.up (by simp)).trans s4 fun x m => .inl m) (fun a m => .inl m) σ k4
      · intro e3 n3 _ z3 C3 H3 cls dx s3 w3 rx
        exact z3 C3 H3 us ((s2.trans s3 (by simp)).up (by simp)) (fun a m => .inl m) σ cls dx (k2.q s3 w3) rx
    · intro e2 n2 _ z2 C2 H2 cls dx s2 w2 rx
      exact z2 C2 H2 us (s2.up (by simp)) (fun a m => .inl m) σ cls dx (h.ok.q s2 w2) rx
end
theorem intsD_rep {G : GC} {C : Cf} {H : Hp} : ∀ {vs : List V} {ds : List D} {ys : List Int}, RepL G C H vs ds → intsD ds = some ys → vs = ys.map V.int
  | _, _, _, .nil, e => by cases e; rfl
  | _, _, _, .cons (d := d) r l, e => by
    cases d <;> try (cases e; done)
    case int x =>
      rw [intsD, Option.map_eq_some_iff] at e
      obtain ⟨zs, e, rfl⟩ := e
      have h1 := intsD_rep l e
      cases r
      rw [h1]
      rfl
def maxF (y : Int) (ys : List Int) : Int := ys.foldl (fun a b => if a < b then b else a) y
theorem maxF_of (y : Int) (ys : List Int) : PySem.W.maxOf y ys = maxF y ys := by
  unfold PySem.W.maxOf maxF
  congr 1
  funext a b
  show (if decide (a < b) = true then b else a) = _
  by_cases h : a < b <;> simp [h]
def maxDF (k : Int) : List D → T D
  | [.lst ds] => (match intsD ds with
    | some [] => .ret (.int k)
    | some (y :: ys) => .ret (.int (maxF y ys))
    | none => .fail)
  | _ => .fail
theorem ints_hold {h : Heap} {xs : List Int} : ∀ {us : List Value}, Vals (xs.map V.int) us → PySem.W.HoldAll h us xs := by
  induction xs with
  | nil =>
    intro us r
    cases r
    exact ⟨_, .nil⟩
  | cons x xs ih =>
    intro us r
    cases r with
    | cons r l =>
      obtain ⟨t, rfl⟩ := r
      obtain ⟨as, ra⟩ := ih l
      exact ⟨_, .cons (.int x t) ra⟩
section
variable {X : Cx} {G : GC} {W : WX} {b : Bool} {m : Env → T D} {e : Expr} {p pos kp cp : Pos} {cj : Nat} {k : Int}
theorem s_maxDef (hk : X.K = G.K) (hc : X.calm = true) (hu : X.A.units + 9 < cLine) (hg : Gl X "max") (hm : X.mg "max" = none) (ha : PE X e (tQ G W b m)) (hs : starEach [e] X.env = (false, eval e X.env) :: starEach [] X.env := by rfl) (hpl : (backTo pos (starEach [e] X.env)).any (·.1) = false := by rfl)
    (he : backTo pos (starEach [e] X.env) = (false, eval e X.env) :: backTo pos (starEach [] X.env) := by rfl) :
    PE X (.Call (.Name "max" p) [e] [⟨some (Str.ofString "default"), .Constant (.int k) cj cp, kp⟩] pos) (tQ G W false (qN (maxDF k) (aCons m aNil))) := by
  refine ⟨fun pins s σ H Q I h => ?_⟩
  obtain ⟨C, n, env, us, h⟩ := h
  refine wpAny_Call_Name_kw (ld_blt I hg hm PyProof.Rows.boot_max (PyProof.Rows.callWith_kw (thn ((a_cons ha a_nil hs).run pos pins s σ H _ I ⟨C, n, env, us, h.bind (R := rA G b)⟩) fun us' s1 ⟨vs, H1, I1, r1, C1, n1, ds, s1', r1', h1⟩ => ?_) he hpl))
  refine PyProof.Rows.kws_cons (thn ((pe_int (X := X) (i := k)).run pins s1 σ H1 (fun v H2 => v = .int k ∧ H2 = H1) I1 ⟨rfl, rfl⟩) fun u s2 ⟨v, H2, I2, r2, e1, e2⟩ => PyProof.Rows.kws_nil ?_)
  subst e1 e2
  obtain ⟨t, rfl⟩ := (show ∃ t, u = Value.int k t from r2)
  show wpAny _ _ (call (.builtin "max") us' [(Str.ofString "default", .int k t)]) _ _ _
  cases r1' with
  | nil => exact h1.no.elim
  | cons r l =>
    cases l with
    | cons _ _ => cases r <;> exact h1.no.elim
    | nil =>
      cases r <;> try exact h1.no.elim
      case lst p vs ds f hp l =>
        replace h1 : At G W (rV G false) σ env us C1 n1 H2 (match intsD ds with
          | some [] => .ret (.int k)
          | some (y :: ys) => .ret (.int (maxF y ys))
          | none => .fail) Q := h1
        cases r1 with
        | cons ra rr =>
          cases rr
          cases ra
          cases q : intsD ds with
          | none => rw [q] at h1; exact h1.no.elim
          | some xs =>
            have ev := intsD_rep l q
            subst ev
            rw [q] at h1
            obtain ⟨its, rv, p', _⟩ := I2.list (SqL.of hp)
            have hold := ints_hold (h := s2.heap) rv
            refine PySem.W.max_list_datum_default (I2.ok.hd hc) p'.isList (by simpa using hold) (by show _ + 1 + PySem.W.Datum.depth Int < _; have : PySem.W.Datum.depth Int = 0 := rfl; omega) (fun e0 h' tk hk => ?_) (fun y ys i v h' tk e0 hi hv hk => ?_)
            · subst e0
              exact ⟨.int k, H2, I2.kept (t' := tk) hk, ⟨t, rfl⟩, h1.ret (.int _)⟩
            · subst e0
              rw [maxF_of] at hv
              obtain ⟨as, hv⟩ := hv
              have hv : Reads h' v (.int (maxF y ys)) as := hv
              cases hv with
              | int _ t2 => exact ⟨.int (maxF y ys), H2, I2.kept (t' := tk) hk, ⟨t2, rfl⟩, h1.ret (.int _)⟩
end
end Pu
set_option Elab.async false
set_option linter.all false
set_option maxRecDepth 100000
set_option maxHeartbeats 4000000
namespace Pu
open PySem L2 Stp NdefX LamX
open PyProof.Rows hiding St
def ItW (xs : List (NK × V × V)) : It :=
  ⟨fun i H => i < xs.length, fun i H x H' => ∃ T k kv v, xs[i]? = some (k, kv, v) ∧ x = .ref T ∧ H T = none ∧ H' = upd H T (.tup [kv, v]), fun i H => xs.length ≤ i⟩
theorem turn_itemsW {P : Program} {w : World} {K : PySem.W.Frag} {hf : NK → Int} {a : Addr} {o : Obj} {xs : List (NK × V × V)} {es : Array DictEntry} {ep : Nat} {elts : List Expr} {kk : Nat} {tpos : Pos} (it : Addr) (hl : K.lookup a = some o) (z : NObj hf a xs o) (d : o.data = .dict es ep) :
    Turn P w K (.Tuple elts kk tpos) (ItW xs) [it] it (fun i h => ∃ ok ov, IsItemIter h it a i es.size ep ok ov) where
  mem := by simp
  obj := fun i h ⟨ok, ov, e⟩ b hb => by
    obtain rfl : b = it := by simpa using hb
    exact ⟨_, e, fun v y => nomatch y⟩
  keep := fun i h h' ⟨ok, ov, e⟩ k => ⟨ok, ov, k it (by simp) _ e⟩
  item := by
    intro X hP hw hK hc i pins s σ H E I hf' st hi
    subst hP hw hK
    obtain ⟨sz, ents⟩ := nobj_at z d
    obtain ⟨ok, ov, he⟩ := st
    have ea := I.kIn a o hl
    have raw : s.heap.DictRaw a es ep := ⟨o, ea, z.ed, d⟩
    have hi' : i < es.size := by rw [sz]; exact hi
    obtain ⟨⟨k, kv, v⟩, hx⟩ : ∃ p, xs[i]? = some p := ⟨xs[i], List.getElem?_eq_getElem hi⟩
    obtain ⟨rk, rv⟩ := ents i k kv v hi' hx
    have lt : it < s.heap.objs.size := Heap.lt_size he
    refine wpAny_pyNext_items_item_raw he raw hi' fun h' out tp sz2 kp => ?_
    refine ⟨_, rfl, wpAny_letOwnedTupleGo_items (s := { s with heap := h' }) out fun h2 out2 sb => ?_⟩
    have tp2 : h2.get? s.heap.objs.size = some { cls := .type "tuple", data := .seq #[es[i].key, es[i].val] } := (sb.2 _ (Nat.ne_of_gt lt)).trans tp
    have ok2 : ObjOk X.prog X.w (upd H s.heap.objs.size (.tup [kv, v])) h2 s.heap.objs.size (.tup [kv, v]) := ⟨by show 2 ≤ sizeLine; decide, [es[i].key, es[i].val], .cons rk (.cons rv .nil), ⟨_, tp2, rfl, _, rfl⟩⟩
    have J : Inv X pins σ (upd H s.heap.objs.size (.tup [kv, v])) { s with heap := h2 } :=
      I.turnedNew (t' := s.toks) (ch := [it]) (fun b ob hb q => (sb.2 b (by simpa using hb)).trans (kp b ob (by simpa using hb) q)) hf' (Nat.le_refl _) ok2
    refine ⟨.ref s.heap.objs.size, _, J, rfl, ⟨_, k, kv, v, hx, rfl, I.hok.fresh (Nat.le_refl _), rfl⟩, ⟨es[i].key, es[i].val, out2⟩, fun b hb => ?_⟩
    obtain rfl : b = it := by simpa using hb
    rw [upd_ne (Nat.ne_of_lt lt)]
    exact (hf' b (by simp)).1
  done := by
    intro X hP hw hK hc i pins s σ H E I hf' st hi
    subst hP hw hK
    obtain ⟨sz, _⟩ := nobj_at z d
    obtain ⟨f0, f1, f2, f3, f4, f5⟩ := hf' it (by simp)
    obtain ⟨ok, ov, he⟩ := st
    exact wpAny_pyNext_items_end_raw (I.ok.hd hc) he ⟨o, I.kIn a o hl, z.ed, d⟩ (by rw [sz]; exact hi) fun h' eb => ⟨rfl, I.turned (t' := s.toks) (fun b ob hb q => eb b ob hb q) f0 f1 f3 f4 f5⟩
  self := fun A i s Q E ⟨_, _, e⟩ h => PySem.W.kcp_self e h
section
variable {X : Cx} {G : GC} {W : WX} {x : Str} {p apos cpos tpos : Pos} {elts : List Expr} {kk : Nat} {kvs : List (D × D)}
theorem i_itemsW (hk : X.K = G.K) (hg : Gl X x) (hm : WDict G X.mg x kvs) (hd : (x == ("__debug__" : Str)) = false := by decide) (hbase : attributeBase (.Name x p) "items" X.env (eval (.Name x p) X.env) = eval (.Name x p) X.env := by rfl) (hline : (apos.endLine == cpos.line) = true := by rfl) :
    PI X (.Tuple elts kk tpos) (.Call (.Attribute (.Name x p) "items" apos) [] [] cpos) (tI G W fun _ => .ret (itemsN kvs)) := by
  obtain ⟨a, o, vs, hx, hl, z, hr⟩ := hm
  refine ⟨fun pins s σ H R I h => ?_⟩
  obtain ⟨C, n, env, us, h⟩ := h
  refine wpAny_Call_method (T := "dict") (id := "dict.items") hbase rfl hline F.plainAttrs_dict F.slot_dict_items F.type_dict_items (ld_glob I hg hx ?_ hd)
  obtain ⟨es, ep, d, _⟩ := id z.da
  have g := I.kIn a o (by rw [hk]; exact hl)
  have raw : s.heap.DictRaw a es ep := ⟨o, g, z.ed, d⟩
  refine ⟨raw.typeIs, fun b eb => by cases eb; exact ⟨o, g, z.ed.2.1⟩, ?_⟩
  have J2 : Inv X pins σ H { s with heap := s.heap.push { cls := .type "dict_items", data := .fields #[.ref a] } } := I.kept (t' := s.toks) fun b ob y => Heap.get?_push_of_some _ y
  have q : R (ItW vs) H := h.ret ⟨fun C' H' nx i d ei => by
      rw [itemsN, List.getElem?_map, Option.map_eq_some_iff] at ei
      obtain ⟨⟨kd, dd⟩, ed, rfl⟩ := ei
      obtain ⟨k, kv, v, e1, rk, rv⟩ := (hr C' H').get ed
      refine ⟨(List.getElem?_eq_some_iff.mp e1).1, fun y H'' hy => ?_⟩
      obtain ⟨Tt, k2, kv2, v2, e2, rfl, hn, rfl⟩ := hy
      rw [e1] at e2
      cases e2
      have st := step_tup (C := C') (o := .tup [kv, v]) hn
      exact ⟨st, fun n w => w.tup hn, .tup upd_same (.cons (rk.nx st.nx) (.cons (rv.nx st.nx) .nil))⟩, fun C' H' nx => by
      show vs.length ≤ _
      rw [(hr C' H').len, itemsN, List.length_map]
      exact Nat.le_refl _⟩
  have fin : wpAny (model X.prog X.w) X.A (pyIter (.ref s.heap.objs.size)) (PIE X pins σ (.Tuple elts kk tpos) R) X.xe { s with heap := s.heap.push { cls := .type "dict_items", data := .fields #[.ref a] } } :=
    wpAny_pyIter_items_raw (d := a) ⟨_, Heap.get?_push_size _ rfl, rfl, rfl⟩ (raw.at fun _ y => Heap.get?_push_of_some _ y) (pi_one (tk := s.toks) J2 _ (turn_itemsW _ (by rw [hk]; exact hl) z d) ⟨.none, .none, Heap.get?_push_size _ rfl⟩ q)
  show wpAny _ _ (callWith cpos (.builtin "dict.items") [.ref a] [] []) _ X.xe s
  exact method_meetsIn F.slot_dict_items F.entry_dict_items rfl (PySem.evalArgs_none ⟨rfl, raw.typeIs, F.args_dict_items_1 _, _, meets_dict_items_raw a z.sm, ⟨es, ep, raw⟩, fin⟩)
end
end Pu
set_option Elab.async false
set_option linter.all false
set_option maxRecDepth 100000
set_option maxHeartbeats 4000000
namespace Pu
open PySem L2 Stp NdefX LamX
open PyProof.Rows hiding St
def chrs (x : Str) : List D := x.cps.toList.map fun c => .str ⟨#[c]⟩
def iChrs (m : Env → T D) : Env → T (List D) := fun env => (m env).bind fun d => match d with
  | .str x => .ret (chrs x)
  | _ => .fail
section
variable {X : Cx} {G : GC} {W : WX} {tg e : Expr} {m : Env → T D}
theorem i_chrs (he : PE X e (tQ G W false m)) : PI X tg e (tI G W (iChrs m)) := by
  refine PI.imp (pi_str he) fun σ H R h => ?_
  obtain ⟨C, n, env, us, h⟩ := h
  refine ⟨C, n, env, us, (h.bind (R := rV G false)).imp ?_⟩
  rintro v H1 ⟨C1, n1, d, s1, r1, h1⟩
  have r1 := r1.unview
  cases r1 <;> try exact h1.no.elim
  case str x =>
    have h1 : At G W (rJ G) σ env us C1 n1 H1 (.ret (chrs x)) R := h1
    refine ⟨x, rfl, h1.ret ⟨fun C' H' nx i d ei => ?_, fun C' H' nx => ?_⟩⟩
    · unfold chrs at ei
      rw [List.getElem?_map, Option.map_eq_some_iff] at ei
      obtain ⟨c, ec, rfl⟩ := ei
      rw [Array.getElem?_toList] at ec
      refine ⟨(Array.getElem?_eq_some_iff.mp ec).1, fun y H'' hy => ?_⟩
      obtain ⟨rfl, c2, e2, rfl⟩ := hy
      rw [ec] at e2
      cases e2
      exact ⟨Step.refl _ _ _, fun n w => w, .str _⟩
    · show x.cps.size ≤ (chrs x).length
      unfold chrs
      rw [List.length_map, Array.length_toList]
      exact Nat.le_refl _
end
end Pu
set_option Elab.async false
set_option linter.all false
set_option maxRecDepth 100000
set_option maxHeartbeats 4000000
namespace Pu
open PySem L2 Stp NdefX LamX
open PyProof.Rows hiding St
/-- T.wp, never unfolded by whnf -/
structure Wp {α : Type} (t : T α) (n : Nat) (Q : α → Nat → Prop) (E : D → Nat → Prop) : Prop where
  h : t.wp n Q E
section
variable {α β : Type} {n : Nat} {Q : α → Nat → Prop} {R : β → Nat → Prop} {E : D → Nat → Prop}
theorem Wp.mono {Q' : α → Nat → Prop} {E' : D → Nat → Prop} {t : T α} (h : Wp t n Q E) (hq : ∀ a m, n ≤ m → Q a m → Q' a m) (he : ∀ e m, n ≤ m → E e m → E' e m) : Wp t n Q' E' := ⟨T.wp_mono h.h hq he⟩
theorem noX_wp : ∀ {t : T α} {n : Nat}, t.wp n Q (fun _ _ => False) → t.noX.wp n Q E
  | .ret _, _, h => h
  | .ex _, _, h => h.elim
  | .draw _ _, _, h => ⟨h.1, h.2.1, h.2.2.1, fun d hd => noX_wp (h.2.2.2 d hd)⟩
  | .fail, _, h => h.elim
end
section
variable {env : Env}
@[simp] theorem seqS_def {m k : Env → T Fl} : seqS m k env = (m env).bind fun r => match r with
  | .nx env' => k env'
  | r => .ret r := (rfl)
@[simp] theorem runF_def {N : Nat} {m : Env → T Fl} {ds : List D} : runF N m ds = (m (startE N ds)).noX.bind endF := (rfl)
@[simp] theorem qN_def {f : List D → T D} {m : Env → T (List D)} : qN f m env = (m env).bind f := (rfl)
@[simp] theorem q1_def {f : D → T D} {m : Env → T D} : q1 f m env = (m env).bind f := (rfl)
@[simp] theorem q2_def {f : D → D → T D} {m k : Env → T D} : q2 f m k env = (m env).bind fun d => (k env).bind fun e => f d e := (rfl)
@[simp] theorem qC_def {d : D} : qC d env = .ret d := (rfl)
@[simp] theorem aNil_def : aNil env = .ret [] := (rfl)
@[simp] theorem aCons_def {m : Env → T D} {k : Env → T (List D)} : aCons m k env = (m env).bind fun d => (k env).bind fun ds => .ret (d :: ds) := (rfl)
@[simp] theorem retS_def {m : Env → T D} : retS m env = (m env).bindX (fun d => .ret (.rt d)) fun e => .ret (.ex e env) := (rfl)
@[simp] theorem asgS_def {i : Nat} {m : Env → T D} : asgS i m env = (m env).bindX (fun d => .ret (.nx (env.set i (some (.fz d))))) fun e => .ret (.ex e env) := (rfl)
@[simp] theorem asgO_def {i : Nat} {m : Env → T O} : asgO i m env = (m env).bindX (fun o => .ret (.nx (env.set i (some o)))) fun e => .ret (.ex e env) := (rfl)
@[simp] theorem dropS_def {m : Env → T D} : dropS m env = (m env).bindX (fun _ => .ret (.nx env)) fun e => .ret (.ex e env) := (rfl)
@[simp] theorem ifS_def {t : Env → T Bool} {m k : Env → T Fl} : ifS t m k env = (t env).bindX (fun b => if b = true then m env else k env) fun e => .ret (.ex e env) := (rfl)
@[simp] theorem forS_def {it : Env → T (List D)} {pt : Pt} {m : Env → T Fl} : forS it pt m env = (it env).bindX (fun ds => forL pt m ds env) fun e => .ret (.ex e env) := (rfl)
@[simp] theorem qComp_def {it : Env → T (List D)} {pt : Pt} {own : List Nat} {tt : Env → T Bool} {me : Env → T D} : qComp it pt own tt me env = (it env).bind fun ds => grd (ds.length ≤ big) ((compL pt (wipeE env own) tt me ds).bind fun r => .ret (.lst r)) := by
  unfold qComp qCompR
  rw [T.bind_assoc]
  congr 1
  funext ds
  unfold grd
  split
  · rfl
  · rfl
theorem drawF_def {u : Int} : drawF [.pen, .int u] = if 0 < u ∧ u < 1073741824 then .draw u.toNat fun d => .ret (.int d) else .fail := rfl
end
@[simp] theorem rng1_def {m : Env → T D} {env : Env} : rng1 m env = (m env).bind fun d => match d with
  | .int j => grd (-4611686018427387904 ≤ j ∧ j < 4611686018427387904) (.ret (rngL 0 j.toNat))
  | _ => .fail := (rfl)
@[simp] theorem qVar_def {i : Nat} {env : Env} : qVar i env = match env[i]? with
  | some (some (.fz d)) => .ret d
  | _ => .fail := (rfl)
end Pu
set_option Elab.async false
set_option linter.all false
set_option maxRecDepth 100000
set_option maxHeartbeats 4000000
namespace Pu
open PySem L2 Stp NdefX LamX
open PyProof.Rows hiding St
/-- t ends with Q j a or E j e, j draws being left of k -/
structure Wb {α : Type} (k : Nat) (t : T α) (Q : Nat → α → Prop) (E : Nat → D → Prop) : Prop where
  h : ∀ n, n + k ≤ T.cap → t.wp n (fun a m => ∃ j, m + j ≤ n + k ∧ Q j a) (fun e m => ∃ j, m + j ≤ n + k ∧ E j e)
abbrev XF : Nat → D → Prop := fun _ _ => False
section
variable {α β : Type} {k : Nat} {Q : Nat → α → Prop} {R : Nat → β → Prop} {E F : Nat → D → Prop}
theorem wb_ret {a : α} (h : Q k a) : Wb k (.ret a) Q E := ⟨fun n _ => ⟨k, Nat.le_refl _, h⟩⟩
theorem Wb.mono {t : T α} {Q' : Nat → α → Prop} {E' : Nat → D → Prop} (h : Wb k t Q E) (hq : ∀ j a, j ≤ k → Q j a → Q' j a) (he : ∀ j e, j ≤ k → E j e → E' j e) : Wb k t Q' E' :=
  ⟨fun n hn => T.wp_mono (h.h n hn) (fun a m l z => by obtain ⟨j, z1, z2⟩ := z; exact ⟨j, z1, hq j a (by omega) z2⟩) (fun a m l z => by obtain ⟨j, z1, z2⟩ := z; exact ⟨j, z1, he j a (by omega) z2⟩)⟩
theorem wb_bind {t : T α} {f : α → T β} (h : Wb k t (fun j a => Wb j (f a) R E) E) : Wb k (t.bind f) R E :=
  ⟨fun n hn => T.bind_wp (T.wp_mono (h.h n hn) (fun a m l z => by
      obtain ⟨j, z1, z2⟩ := z
      exact T.wp_mono (z2.h m (by omega)) (fun b m2 _ y => by obtain ⟨i, y1, y2⟩ := y; exact ⟨i, by omega, y2⟩) (fun b m2 _ y => by obtain ⟨i, y1, y2⟩ := y; exact ⟨i, by omega, y2⟩)) (fun _ _ _ z => z))⟩
theorem wb_bindX {t : T α} {f : α → T β} {g : D → T β} (h : Wb k t (fun j a => Wb j (f a) R E) (fun j e => Wb j (g e) R E)) : Wb k (t.bindX f g) R E :=
  ⟨fun n hn => T.bindX_wp (T.wp_mono (h.h n hn) (fun a m l z => by
      obtain ⟨j, z1, z2⟩ := z
      exact T.wp_mono (z2.h m (by omega)) (fun b m2 _ y => by obtain ⟨i, y1, y2⟩ := y; exact ⟨i, by omega, y2⟩) (fun b m2 _ y => by obtain ⟨i, y1, y2⟩ := y; exact ⟨i, by omega, y2⟩))
    (fun a m l z => by
      obtain ⟨j, z1, z2⟩ := z
      exact T.wp_mono (z2.h m (by omega)) (fun b m2 _ y => by obtain ⟨i, y1, y2⟩ := y; exact ⟨i, by omega, y2⟩) (fun b m2 _ y => by obtain ⟨i, y1, y2⟩ := y; exact ⟨i, by omega, y2⟩)))⟩
theorem wb_draw {u : Nat} {f : Nat → T α} (hk : 0 < k) (h0 : 0 < u) (h1 : u < 1073741824) (h : ∀ d, d < u → Wb (k - 1) (f d) Q E) : Wb k (.draw u f) Q E :=
  ⟨fun n hn => ⟨h0, h1, by omega, fun d hd => T.wp_mono ((h d hd).h (n + 1) (by omega)) (fun b m2 _ y => by obtain ⟨i, y1, y2⟩ := y; exact ⟨i, by omega, y2⟩) (fun b m2 _ y => by obtain ⟨i, y1, y2⟩ := y; exact ⟨i, by omega, y2⟩)⟩⟩
theorem wb_nox {t : T α} (h : Wb k t Q XF) : Wb k t.noX Q E := ⟨fun n hn => noX_wp (T.wp_mono (h.h n hn) (fun _ _ _ z => z) (fun _ _ _ z => by obtain ⟨_, _, z⟩ := z; exact z))⟩
theorem wb_grd {c : Prop} [Decidable c] {t : T α} (hc : c) (h : Wb k t Q E) : Wb k (grd c t) Q E := by
  unfold grd
  rw [if_pos hc]
  exact h
theorem wb_eq {t s : T α} (e : t = s) (h : Wb k s Q E) : Wb k t Q E := e ▸ h
/-- what a callee needs, c draws at most -/
theorem wb_call {c : Nat} {t : T α} {P : α → Prop} (s : Wb c t (fun _ a => P a) XF) (hc : c ≤ k) (h : ∀ a, P a → Q (k - c) a) : Wb k t Q E :=
  ⟨fun n hn => T.wp_mono (s.h n (by omega)) (fun a m _ z => by obtain ⟨j, z1, z2⟩ := z; exact ⟨k - c, by omega, h a z2⟩) (fun _ _ _ z => by obtain ⟨_, _, z⟩ := z; exact z.elim)⟩
theorem wb_callB {c : Nat} {t : T α} {f : α → T β} {P : α → Prop} (s : Wb c t (fun _ a => P a) XF) (hc : c ≤ k) (h : ∀ a, P a → Wb (k - c) (f a) R E) : Wb k (t.bind f) R E := wb_bind (wb_call s hc h)
theorem wb_callX {c : Nat} {t : T α} {f : α → T β} {g : D → T β} {P : α → Prop} (s : Wb c t (fun _ a => P a) XF) (hc : c ≤ k) (h : ∀ a, P a → Wb (k - c) (f a) R E) : Wb k (t.bindX f g) R E := wb_bindX (wb_call s hc h)
theorem Wb.more {c : Nat} {t : T α} {P : α → Prop} (s : Wb c t (fun _ a => P a) XF) (hc : c ≤ k) : Wb k t (fun _ a => P a) XF := wb_call s hc fun _ h => h
theorem wp_some {t : T α} {n : Nat} {P : α → Nat → Prop} {G : D → Nat → Prop} (h : t.wp n P G) : (∃ a m, n ≤ m ∧ P a m) ∨ ∃ e m, n ≤ m ∧ G e m := by
  induction t generalizing n with
  | ret a => exact .inl ⟨a, n, Nat.le_refl _, h⟩
  | ex e => exact .inr ⟨e, n, Nat.le_refl _, h⟩
  | draw u f ih =>
    rcases ih 0 (h.2.2.2 0 h.1) with ⟨a, m, l, z⟩ | ⟨a, m, l, z⟩
    · exact .inl ⟨a, m, by omega, z⟩
    · exact .inr ⟨a, m, by omega, z⟩
  | fail => exact h.elim
theorem pure_ret {t : T α} {v : α} (h : Wb 0 t (fun _ a => a = v) XF) : t = .ret v := by
  have z := h.h 0 (by decide)
  cases t with
  | ret a => obtain ⟨_, _, e⟩ := z; rw [e]
  | ex e => obtain ⟨_, _, e⟩ := z; exact e.elim
  | draw u f =>
    rcases wp_some (z.2.2.2 0 z.1) with ⟨a, m, l, j, y, _⟩ | ⟨a, m, l, j, y, _⟩ <;> omega
  | fail => exact z.elim
end
section
variable {α : Type} {k : Nat} {Q : Nat → Fl → Prop} {E : Nat → D → Prop} {env : Env}
theorem wb_seq {m m2 : Env → T Fl} (h : Wb k (m env) (fun j r => match r with
    | .nx e => Wb j (m2 e) Q E
    | r => Q j r) E) : Wb k (seqS m m2 env) Q E :=
  wb_bind (h.mono (fun j r _ z => by cases r <;> first | exact z | exact wb_ret z) (fun _ _ _ z => z))
theorem wb_exS {m : Env → T α} {f : α → Env → T Fl} (h : Wb k (m env) (fun j d => Wb j (f d env) Q E) (fun j x => Q j (.ex x env))) : Wb k (exS m f env) Q E :=
  wb_bindX (h.mono (fun _ _ _ z => z) (fun _ _ _ z => wb_ret z))
theorem wb_asg {i : Nat} {m : Env → T D} (h : Wb k (m env) (fun j d => Q j (.nx (env.set i (some (.fz d))))) (fun j x => Q j (.ex x env))) : Wb k (asgS i m env) Q E :=
  wb_exS (h.mono (fun _ _ _ z => wb_ret z) (fun _ _ _ z => z))
theorem wb_asgO {i : Nat} {m : Env → T O} (h : Wb k (m env) (fun j d => Q j (.nx (env.set i (some d)))) (fun j x => Q j (.ex x env))) : Wb k (asgO i m env) Q E :=
  wb_exS (h.mono (fun _ _ _ z => wb_ret z) (fun _ _ _ z => z))
theorem wb_retS {m : Env → T D} (h : Wb k (m env) (fun j d => Q j (.rt d)) (fun j x => Q j (.ex x env))) : Wb k (retS m env) Q E :=
  wb_exS (h.mono (fun _ _ _ z => wb_ret z) (fun _ _ _ z => z))
theorem wb_if {t : Env → T Bool} {m m2 : Env → T Fl} (h : Wb k (t env) (fun j b => if b = true then Wb j (m env) Q E else Wb j (m2 env) Q E) (fun j x => Q j (.ex x env))) : Wb k (ifS t m m2 env) Q E :=
  wb_exS (h.mono (fun _ b _ z => by cases b <;> exact z) (fun _ _ _ z => z))
theorem wb_runF {R : Nat → D → Prop} {N : Nat} {m : Env → T Fl} {ds : List D} (h : Wb k (m (startE N ds)) (fun j r => Wb j (endF r) R E) XF) : Wb k (runF N m ds) R E :=
  wb_bind (wb_nox h)
theorem wb_for {it : Env → T (List D)} {pt : Pt} {m : Env → T Fl} (h : Wb k (it env) (fun j ds => Wb j (forL pt m ds env) Q E) (fun j x => Q j (.ex x env))) : Wb k (forS it pt m env) Q E := wb_exS h
/-- behind a turn of a loop -/
def TurnP (P : Env → Prop) (Z : Fl → Prop) : Fl → Prop
  | .nx e => P e
  | .ct e => P e
  | r => Z r
@[simp] theorem turnP_nx {P : Env → Prop} {Z : Fl → Prop} {e : Env} : TurnP P Z (.nx e) = P e := (rfl)
@[simp] theorem turnP_ct {P : Env → Prop} {Z : Fl → Prop} {e : Env} : TurnP P Z (.ct e) = P e := (rfl)
@[simp] theorem turnP_rt {P : Env → Prop} {Z : Fl → Prop} {d : D} : TurnP P Z (.rt d) = Z (.rt d) := (rfl)
@[simp] theorem turnP_bk {P : Env → Prop} {Z : Fl → Prop} {e : Env} : TurnP P Z (.bk e) = Z (.bk e) := (rfl)
@[simp] theorem turnP_ro {P : Env → Prop} {Z : Fl → Prop} {o : O} : TurnP P Z (.ro o) = Z (.ro o) := (rfl)
@[simp] theorem turnP_ex {P : Env → Prop} {Z : Fl → Prop} {d : D} {e : Env} : TurnP P Z (.ex d e) = Z (.ex d e) := (rfl)
def noZ : Fl → Prop := fun _ => False
/-- a loop by its invariant; Z: what may end it ahead of time -/
theorem wb_forL {pt : Pt} {m : Env → T Fl} (b : Nat) (Z : Fl → Prop) (I : Nat → Env → Prop) : ∀ {ds : List D} {k : Nat} {env : Env}, I 0 env → b * ds.length ≤ k →
    (∀ j d env, ds[j]? = some d → I j env → ∃ env', putP pt d env = some env' ∧ Wb b (m env') (fun _ r => TurnP (I (j + 1)) Z r) XF) →
    Wb k (forL pt m ds env) (fun j r => j = k - b * ds.length ∧ ((∃ e, r = .nx e ∧ I ds.length e) ∨ (∃ e, Z (.bk e) ∧ r = .nx e) ∨ (Z r ∧ (∀ e, r ≠ .nx e)))) XF
  | [], k, env, h0, hk, h => wb_ret ⟨by simp, .inl ⟨env, rfl, h0⟩⟩
  | d :: ds, k, env, h0, hk, h => by
    rw [List.length_cons, Nat.mul_succ] at hk
    obtain ⟨env', e, he⟩ := h 0 d env rfl h0
    unfold forL
    rw [e]
    dsimp only
    refine wb_bind (wb_call (P := fun r => TurnP (I (0 + 1)) Z r) he (by omega) fun r z => ?_)
    have go : ∀ e2, I 1 e2 → Wb (k - b) (forL pt m ds e2) (fun j r => j = k - b * (d :: ds).length ∧ ((∃ e, r = .nx e ∧ I (d :: ds).length e) ∨ (∃ e, Z (.bk e) ∧ r = .nx e) ∨ (Z r ∧ (∀ e, r ≠ .nx e)))) XF := fun e2 i1 => by
      refine (wb_forL b Z (fun j => I (j + 1)) (ds := ds) (k := k - b) (env := e2) i1 (by omega) fun j d env ej ij => h (j + 1) d env (by simpa using ej) ij).mono (fun j r _ z => ⟨?_, z.2⟩) (fun _ _ _ z => z)
      rw [List.length_cons, Nat.mul_succ, z.1]
      omega
    have hk2 : k - b * (d :: ds).length ≤ k - b := by rw [List.length_cons, Nat.mul_succ]; omega
    have stop : ∀ r, ((∃ e, Z (.bk e) ∧ r = .nx e) ∨ (Z r ∧ (∀ e, r ≠ .nx e))) → Wb (k - b) (.ret r) (fun j r => j = k - b * (d :: ds).length ∧ ((∃ e, r = .nx e ∧ I (d :: ds).length e) ∨ (∃ e, Z (.bk e) ∧ r = .nx e) ∨ (Z r ∧ (∀ e, r ≠ .nx e)))) XF := fun r z =>
      ⟨fun n hn => ⟨_, by omega, rfl, .inr z⟩⟩
    cases r with
    | nx e2 => exact go e2 z
    | ct e2 => exact go e2 z
    | bk e2 => exact stop _ (.inl ⟨e2, z, rfl⟩)
    | rt d => exact stop _ (.inr ⟨z, fun _ z => nomatch z⟩)
    | ex x e2 => exact stop _ (.inr ⟨z, fun _ z => nomatch z⟩)
    | ro o => exact stop _ (.inr ⟨z, fun _ z => nomatch z⟩)
/-- a loop that nothing ends ahead of time -/
theorem wb_forI {pt : Pt} {m : Env → T Fl} (b : Nat) (I : Nat → Env → Prop) {ds : List D} {k : Nat} {env : Env} {Q : Nat → Fl → Prop} {E : Nat → D → Prop} (h0 : I 0 env) (hk : b * ds.length ≤ k)
    (h : ∀ j d env, ds[j]? = some d → I j env → ∃ env', putP pt d env = some env' ∧ Wb b (m env') (fun _ r => TurnP (I (j + 1)) noZ r) XF) (h1 : ∀ e, I ds.length e → Q (k - b * ds.length) (.nx e)) : Wb k (forL pt m ds env) Q E := by
  refine (wb_forL b noZ I h0 hk fun j d env e i => ?_).mono (fun j r _ z => ?_) (fun _ _ _ z => z.elim)
  · obtain ⟨env', h1, h2⟩ := h j d env e i
    exact ⟨env', h1, h2⟩
  · obtain ⟨rfl, ⟨e, rfl, z⟩ | ⟨_, z, _⟩ | ⟨z, _⟩⟩ := z
    · exact h1 e z
    · exact z.elim
    · exact z.elim
/-- a comprehension whose elements all are P -/
theorem wb_compL {pt : Pt} {me : Env → T D} (b : Nat) (P : Nat → D → Prop) : ∀ {ds : List D} {k : Nat}, b * ds.length ≤ k →
    (∀ j d, ds[j]? = some d → ∃ env', putP pt d env = some env' ∧ Wb b (me env') (fun _ y => P j y) XF) →
    Wb k (compL pt env (fun _ => .ret true) me ds) (fun j r => j = k - b * ds.length ∧ r.length = ds.length ∧ ∀ j y, r[j]? = some y → P j y) E
  | [], k, _, _ => wb_ret ⟨by simp, rfl, fun j y e => by simp at e⟩
  | d :: ds, k, hk, h => by
    rw [List.length_cons, Nat.mul_succ] at hk
    obtain ⟨env', e, he⟩ := h 0 d rfl
    unfold compL
    rw [e]
    dsimp only
    refine wb_bind (wb_nox (wb_ret ?_))
    rw [if_pos rfl]
    refine wb_bind (wb_nox (wb_call he (by omega) fun y hy => ?_))
    refine wb_bind ((wb_compL b (fun j => P (j + 1)) (ds := ds) (k := k - b) (by omega) fun j d e => h (j + 1) d (by simpa using e)).mono (fun j r _ z => wb_ret ⟨?_, ?_, ?_⟩) (fun _ _ _ z => z))
    · rw [List.length_cons, Nat.mul_succ, z.1]; omega
    · simp [z.2.1]
    · intro j y e
      cases j with
      | zero => simp at e; exact e ▸ hy
      | succ j => exact z.2.2 j y (by simpa using e)
end
@[simp] theorem T.bind_ret {α β : Type} {a : α} {f : α → T β} : (T.ret a).bind f = f a := (rfl)
@[simp] theorem T.bind_ex {α β : Type} {e : D} {f : α → T β} : (T.ex e : T α).bind f = .ex e := (rfl)
@[simp] theorem T.bindX_ret {α β : Type} {a : α} {f : α → T β} {g : D → T β} : (T.ret a).bindX f g = f a := (rfl)
@[simp] theorem T.bindX_ex {α β : Type} {e : D} {f : α → T β} {g : D → T β} : (T.ex e : T α).bindX f g = g e := (rfl)
@[simp] theorem T.noX_ret {α : Type} {a : α} : (T.ret a).noX = .ret a := (rfl)
theorem grd_pos {α : Type} {c : Prop} [Decidable c] {t : T α} (h : c) : grd c t = t := if_pos h
theorem compL_map {pt : Pt} {env : Env} {tt : Env → T Bool} {me : Env → T D} {f : D → D} : ∀ {ds : List D}, (∀ d ∈ ds, ∃ env', putP pt d env = some env' ∧ tt env' = .ret true ∧ me env' = .ret (f d)) → compL pt env tt me ds = .ret (ds.map f)
  | [], _ => rfl
  | d :: ds, h => by
    obtain ⟨env', e1, e2, e3⟩ := h d (List.mem_cons_self ..)
    unfold compL
    rw [e1]
    dsimp only
    rw [e2, e3, T.noX_ret, T.bind_ret, if_pos rfl, T.noX_ret, T.bind_ret, compL_map fun d m => h d (List.mem_cons_of_mem _ m)]
    rfl
theorem lawOk_wb {nN i : Nat} {m : Env → T Fl} (k : Nat) (hk : k ≤ T.cap) (h : Wb k (m (lawE nN i)) (fun _ r => r = .rt (.bl true)) XF) : lawOk nN i m :=
  T.wp_mono (h.h 0 (by omega)) (fun r _ _ z => by obtain ⟨_, _, rfl⟩ := z; trivial) (fun _ _ _ z => by obtain ⟨_, _, z⟩ := z; exact z)
/-- if ..: return False, that does not come about -/
theorem wb_ifno {k : Nat} {Q : Nat → Fl → Prop} {E : Nat → D → Prop} {env : Env} {t : Env → T Bool} {m m2 : Env → T Fl} (e : t env = .ret false) (h : Wb k (m2 env) Q E) : Wb k (ifS t m m2 env) Q E :=
  wb_if (wb_eq e (wb_ret h))
end Pu
set_option Elab.async false
set_option linter.all false
set_option maxRecDepth 100000
set_option maxHeartbeats 4000000
namespace Pu
open PySem L2 Stp NdefX LamX
open PyProof.Rows hiding St
section
variable {env : Env}
@[simp] theorem T.noX_ex {α : Type} {e : D} : (T.ex e : T α).noX = .fail := (rfl)
@[simp] theorem T.noX_fail {α : Type} : (T.fail : T α).noX = .fail := (rfl)
@[simp] theorem T.bind_fail {α β : Type} {f : α → T β} : (T.fail : T α).bind f = .fail := (rfl)
@[simp] theorem T.bindX_fail {α β : Type} {f : α → T β} {g : D → T β} : (T.fail : T α).bindX f g = .fail := (rfl)
@[simp] theorem T.bind_ite {α β : Type} {c : Prop} [Decidable c] {t s : T α} {f : α → T β} : (if c then t else s).bind f = if c then t.bind f else s.bind f := by split <;> rfl
@[simp] theorem T.bindX_ite {α β : Type} {c : Prop} [Decidable c] {t s : T α} {f : α → T β} {g : D → T β} : (if c then t else s).bindX f g = if c then t.bindX f g else s.bindX f g := by split <;> rfl
@[simp] theorem T.noX_ite {α : Type} {c : Prop} [Decidable c] {t s : T α} : (if c then t else s).noX = if c then t.noX else s.noX := by split <;> rfl
@[simp] theorem T.bind_assoc2 {α β γ : Type} {t : T α} {f : α → T β} {g : β → T γ} : (t.bind f).bind g = t.bind fun a => (f a).bind g := T.bind_assoc ..
@[simp] theorem big_0 : (0 ≤ big) = True := eq_true (by decide)
@[simp] theorem big_1 : (1 ≤ big) = True := eq_true (by decide)
@[simp] theorem big_2 : (2 ≤ big) = True := eq_true (by decide)
@[simp] theorem big_3 : (3 ≤ big) = True := eq_true (by decide)
@[simp] theorem big_4 : (4 ≤ big) = True := eq_true (by decide)
@[simp] theorem big_5 : (5 ≤ big) = True := eq_true (by decide)
@[simp] theorem big_6 : (6 ≤ big) = True := eq_true (by decide)
@[simp] theorem big_7 : (7 ≤ big) = True := eq_true (by decide)
@[simp] theorem big_8 : (8 ≤ big) = True := eq_true (by decide)
@[simp] theorem big_9 : (9 ≤ big) = True := eq_true (by decide)
@[simp] theorem big_10 : (10 ≤ big) = True := eq_true (by decide)
@[simp] theorem big_11 : (11 ≤ big) = True := eq_true (by decide)
@[simp] theorem big_12 : (12 ≤ big) = True := eq_true (by decide)
@[simp] theorem big_13 : (13 ≤ big) = True := eq_true (by decide)
@[simp] theorem big_14 : (14 ≤ big) = True := eq_true (by decide)
@[simp] theorem big_15 : (15 ≤ big) = True := eq_true (by decide)
@[simp] theorem big_16 : (16 ≤ big) = True := eq_true (by decide)
@[simp] theorem big_17 : (17 ≤ big) = True := eq_true (by decide)
@[simp] theorem big_18 : (18 ≤ big) = True := eq_true (by decide)
@[simp] theorem big_19 : (19 ≤ big) = True := eq_true (by decide)
@[simp] theorem big_20 : (20 ≤ big) = True := eq_true (by decide)
@[simp] theorem big_21 : (21 ≤ big) = True := eq_true (by decide)
@[simp] theorem big_22 : (22 ≤ big) = True := eq_true (by decide)
@[simp] theorem big_23 : (23 ≤ big) = True := eq_true (by decide)
@[simp] theorem big_24 : (24 ≤ big) = True := eq_true (by decide)
@[simp] theorem big_25 : (25 ≤ big) = True := eq_true (by decide)
@[simp] theorem big_26 : (26 ≤ big) = True := eq_true (by decide)
@[simp] theorem big_27 : (27 ≤ big) = True := eq_true (by decide)
@[simp] theorem big_28 : (28 ≤ big) = True := eq_true (by decide)
@[simp] theorem big_29 : (29 ≤ big) = True := eq_true (by decide)
@[simp] theorem big_30 : (30 ≤ big) = True := eq_true (by decide)
@[simp] theorem big_31 : (31 ≤ big) = True := eq_true (by decide)
@[simp] theorem big_32 : (32 ≤ big) = True := eq_true (by decide)
@[simp] theorem big_33 : (33 ≤ big) = True := eq_true (by decide)
@[simp] theorem big_34 : (34 ≤ big) = True := eq_true (by decide)
@[simp] theorem big_35 : (35 ≤ big) = True := eq_true (by decide)
@[simp] theorem big_36 : (36 ≤ big) = True := eq_true (by decide)
@[simp] theorem big_37 : (37 ≤ big) = True := eq_true (by decide)
@[simp] theorem big_38 : (38 ≤ big) = True := eq_true (by decide)
@[simp] theorem big_39 : (39 ≤ big) = True := eq_true (by decide)
@[simp] theorem big_40 : (40 ≤ big) = True := eq_true (by decide)
@[simp] theorem grd_true {α : Type} {t : T α} : grd True t = t := if_pos trivial
@[simp] theorem qLook_def {i : Nat} : qLook i env = match env[i]? with
  | some (some o) => .ret o.toD
  | _ => .fail := (rfl)
@[simp] theorem qIf_def {t : Env → T Bool} {m k : Env → T D} : qIf t m k env = (t env).bind fun x => if x = true then m env else k env := (rfl)
def andD (t : T D) : D → T D
  | .bl true => t
  | .bl false => .ret (.bl false)
  | _ => .fail
def orD (t : T D) : D → T D
  | .bl true => .ret (.bl true)
  | .bl false => t
  | _ => .fail
@[simp] theorem andD_bl {t : T D} {b : Bool} : andD t (.bl b) = if b = true then t else .ret (.bl false) := by cases b <;> rfl
@[simp] theorem orD_bl {t : T D} {b : Bool} : orD t (.bl b) = if b = true then .ret (.bl true) else t := by cases b <;> rfl
@[simp] theorem qAnd_def {m k : Env → T D} : qAnd m k env = (m env).bind (andD (k env)) := by
  unfold qAnd
  congr 1
@[simp] theorem qOr_def {m k : Env → T D} : qOr m k env = (m env).bind (orD (k env)) := by
  unfold qOr
  congr 1
@[simp] theorem ite_bl_and {c : Prop} [Decidable c] {b : Bool} : (if c then T.ret (D.bl b) else T.ret (D.bl false)) = T.ret (D.bl (decide c && b)) := by by_cases h : c <;> simp [h]
@[simp] theorem ite_bl_or {c : Prop} [Decidable c] {b : Bool} : (if c then T.ret (D.bl true) else T.ret (D.bl b)) = T.ret (D.bl (decide c || b)) := by by_cases h : c <;> simp [h]
@[simp] theorem ite_b_and {c : Prop} [Decidable c] {b : Bool} : (if c then T.ret b else T.ret false) = T.ret (decide c && b) := by by_cases h : c <;> simp [h]
@[simp] theorem ite_b_or {c : Prop} [Decidable c] {b : Bool} : (if c then T.ret true else T.ret b) = T.ret (decide c || b) := by by_cases h : c <;> simp [h]
@[simp] theorem tb1_def {m : Env → T D} {f : D → T Bool} : tb1 m f env = (m env).bind f := (rfl)
@[simp] theorem tbAnd_def {m k : Env → T Bool} : tbAnd m k env = (m env).bind fun x => if x = true then k env else .ret false := (rfl)
@[simp] theorem tbOr_def {m k : Env → T Bool} : tbOr m k env = (m env).bind fun x => if x = true then .ret true else k env := (rfl)
@[simp] theorem tbNot_def {m : Env → T Bool} : tbNot m env = (m env).bind fun x => .ret (!x) := (rfl)
@[simp] theorem qChain_def {f g : Int → Int → Bool} {ma mb mc : Env → T D} : qChain f g ma mb mc env = (ma env).bind fun x => (mb env).bind fun y => match x, y with
  | .int i, .int j => if f i j = true then (mc env).bind fun z => match z with
      | .int l => .ret (.bl (g j l))
      | _ => .fail else .ret (.bl false)
  | _, _ => .fail := (rfl)
end
@[simp] theorem qIxO_def {i : Nat} {mb : Env → T D} {env : Env} : qIxO i mb env = match env[i]? with
  | some (some o) => (mb env).bind (itO o)
  | _ => .fail := (rfl)
@[simp] theorem qSlice_def {m : Env → T D} {lo hi : Env → T (Option Int)} {env : Env} : qSlice m lo hi env = (m env).bind fun d => (lo env).bind fun l => (hi env).bind fun h => sliceD d l h := (rfl)
@[simp] theorem oNone_def  {env : Env} : oNone env = .ret none := (rfl)
@[simp] theorem oSome_def {m : Env → T D} {env : Env} : oSome m env = (m env).bind fun d => match d with
  | .int i => .ret (some i)
  | _ => .fail := (rfl)
@[simp] theorem iSeq_def {m : Env → T D} {env : Env} : iSeq m env = (m env).bind itemsD := (rfl)
@[simp] theorem rng2_def {m k : Env → T D} {env : Env} : rng2 m k env = (m env).bind fun d => (k env).bind fun e => match d, e with
  | .int i, .int j => grd ((-4611686018427387904 ≤ i ∧ i < 4611686018427387904) ∧ -4611686018427387904 ≤ j ∧ j < 4611686018427387904) (.ret (rngL i (j - i).toNat))
  | _, _ => .fail := (rfl)
@[simp] theorem lrg1_def {m : Env → T D} {env : Env} : lrg1 m env = (m env).bind fun d => match d with
  | .int n => grd (0 ≤ n ∧ n ≤ 1000000) (.ret (.lst (rgD 0 n)))
  | _ => .fail := (rfl)
@[simp] theorem qIndex_def {mo me : Env → T D} {env : Env} : qIndex mo me env = (mo env).bind fun d => match d with
  | .lst xs => (me env).bind fun y => indexD (.lst xs) y
  | _ => .fail := (rfl)
@[simp] theorem qCount_def {mo me : Env → T D} {env : Env} : qCount mo me env = (mo env).bind fun d => match d with
  | .lst xs => (me env).bind fun y => countD (.lst xs) y
  | _ => .fail := (rfl)
/-- a method of the class c -/
def methF (c : Nat) (m : Str) (np : Nat) (mf : List D → T D) (ma : T (List D)) : D → T D
  | .obj c' fs => if c' = c ∧ fs.lookup m = none then ma.bind fun ds => grd (ds.length + 1 = np) (mf (.obj c' fs :: ds)) else .fail
  | _ => .fail
@[simp] theorem qMeth_def {c : Nat} {m : Str} {np : Nat} {mf : List D → T D} {mo : Env → T D} {ma : Env → T (List D)} {env : Env} : qMeth c m np mf mo ma env = (mo env).bind (methF c m np mf (ma env)) := by
  unfold qMeth
  congr 1
  funext o
  cases o <;> rfl
def isCO (c : Nat) : Option (Option O) → Bool
  | some (some (.fz (.obj c' _))) => c' == c
  | _ => false
@[simp] theorem isC_def {c i : Nat} {env : Env} : isC c i env = isCO c env[i]? := by
  unfold isC isCO
  rfl
@[simp] theorem qCallV_def {L : LamL} {i : Nat} {ma : Env → T (List D)} {env : Env} : qCallV L i ma env = (qVar i env).bind (callVs L (ma env)) := (rfl)
@[simp] theorem aStar_def {m : Env → T D} {k : Env → T (List D)} {env : Env} : aStar m k env = (m env).bind fun d => (itmD d).bind fun xs => (k env).bind fun ys => .ret (xs ++ ys) := (rfl)
@[simp] theorem aLam_def {id : Nat} {js : List Nat} {k : Env → T (List D)} {env : Env} : aLam id js k env = match capsD env js with
  | some cs => (k env).bind fun ds => .ret (.fn id cs :: ds)
  | none => .fail := (rfl)
@[simp] theorem raiseS_def {c : Nat} {env : Env} : raiseS c env = .ret (.ex (.exc c []) env) := (rfl)
@[simp] theorem tryS_def {xm : Nat → Option Bool} {i j : Nat} {m : Env → T Fl} {env : Env} : tryS xm i j m env = (m env).bind (catchS xm i j) := (rfl)
@[simp] theorem appS_def {i : Nat} {m : Env → T D} {env : Env} : appS i m env = ownL i env fun xs => exS m (fun d env => grd (xs.length ≤ big) (.ret (.nx (env.set i (some (.ls (xs ++ [d]))))))) env := (rfl)
@[simp] theorem extS_def {i : Nat} {m : Env → T D} {env : Env} : extS i m env = ownL i env fun xs => exS m (fun d env => match d with
  | .lst ys => grd (xs.length + ys.length ≤ big) (.ret (.nx (env.set i (some (.ls (xs ++ ys))))))
  | .tup ys => grd (xs.length + ys.length ≤ big) (.ret (.nx (env.set i (some (.ls (xs ++ ys))))))
  | _ => .fail) env := (rfl)
@[simp] theorem setS_def {i : Nat} {mi m : Env → T D} {env : Env} : setS i mi m env = ownL i env fun xs => exS (fun env => (m env).bind fun d => (mi env).bind fun j => .ret (d, j)) (fun p env => match p.2 with
  | .int k => (match ixN xs.length k with
    | some j => .ret (.nx (env.set i (some (.ls (xs.set j p.1)))))
    | none => .fail)
  | _ => .fail) env := (rfl)
@[simp] theorem setLLS_def {i : Nat} {mi mj m : Env → T D} {env : Env} : setLLS i mi mj m env = ownLL i env fun xss => exS (fun env => (m env).bind fun d => (mi env).bind fun a => (ixA xss.length a).bind fun ja => (mj env).bind fun b => .ret (d, ja, b)) (fun p env => (ixA (xss.getD p.2.1 []).length p.2.2).bind fun jb => .ret (.nx (env.set i (some (.ll (xss.set p.2.1 ((xss.getD p.2.1 []).set jb p.1))))))) env := (rfl)
@[simp] theorem meS_def {cs : List Nat} {f : Str} {m : Env → T D} {env : Env} : meS cs f m env = match env[(0 : Nat)]? with
  | some (some (O.me c fs)) => if c ∈ cs ∧ fs.length < 100 then exS m (fun d env => .ret (.nx (env.set 0 (some (.me c (putFD f d fs)))))) env else .fail
  | _ => .fail := (rfl)
@[simp] theorem baseS_def {m : Nat → List (Str × D) → List D → T (List (Str × D))} {np : Nat} {ma : Env → T (List D)} {env : Env} : baseS m np ma env = match env[(0 : Nat)]? with
  | some (some (O.me c fs)) => exS (fun env => (ma env).bind fun ds => grd (ds.length + 1 = np) (m c fs ds).noX) (fun fs' env => .ret (.nx (env.set 0 (some (.me c fs'))))) env
  | _ => .fail := (rfl)
@[simp] theorem parO_def {i j : Nat} {m k : Env → T O} {env : Env} : parO i j m k env = (exS (fun env => (m env).bind fun a => (k env).bind fun b => .ret (a, b)) fun p env => .ret (.nx ((env.set i (some p.1)).set j (some p.2)))) env := (rfl)
@[simp] theorem parO3_def {i j l : Nat} {m1 m2 m3 : Env → T O} {env : Env} : parO3 i j l m1 m2 m3 env = (exS (fun env => (m1 env).bind fun a => (m2 env).bind fun b => (m3 env).bind fun c => .ret (a, b, c)) fun p env => .ret (.nx (((env.set i (some p.1)).set j (some p.2.1)).set l (some p.2.2)))) env := (rfl)
@[simp] theorem oQ_def {m : Env → T D} {env : Env} : oQ m env = (m env).bind fun d => .ret (.fz d) := (rfl)
@[simp] theorem oL_def {m : Env → T (List D)} {env : Env} : oL m env = (m env).bind fun ds => grd (ds.length ≤ big) (.ret (.ls ds)) := (rfl)
@[simp] theorem oComp_def {it : Env → T (List D)} {pt : Pt} {own : List Nat} {tt : Env → T Bool} {me : Env → T D} {env : Env} : oComp it pt own tt me env = (qCompR it pt own tt me env).bind fun r => .ret (.ls r) := (rfl)
@[simp] theorem qComp2_def {it : Env → T (List D)} {pt : Pt} {own : List Nat} {tt : Env → T Bool} {it1 : Env → T (List D)} {pt1 : Pt} {vs1 : List Nat} {tt1 : Env → T Bool} {me : Env → T D} {env : Env} : qComp2 it pt own tt it1 pt1 vs1 tt1 me env = (it env).bind fun ds => grd (ds.length ≤ big2) ((compL2 pt (wipeE env own) tt it1 pt1 vs1 tt1 me ds).bind fun r => .ret (.lst r)) := (rfl)
@[simp] theorem oCompLL_def {it : Env → T (List D)} {pt : Pt} {own : List Nat} {me : Env → T O} {env : Env} : oCompLL it pt own me env = (it env).bind fun ds => grd (ds.length ≤ big) ((compLL pt (wipeE env own) me ds).bind fun r => .ret (.ll r)) := (rfl)
@[simp] theorem dputK_def {i : Nat} {mi m : Env → T D} {env : Env} : dputK i mi m env = ownK i env fun kvs => exS (fun env => (m env).bind fun d => (mi env).bind fun j => .ret (d, j)) (fun p env => match keyD p.2 with
  | some k => grd (kvs.length ≤ big) (.ret (.nx (env.set i (some (.dk (putD kvs k p.1))))))
  | none => .fail) env := (rfl)
@[simp] theorem dputT_def {i : Nat} {mi m : Env → T D} {env : Env} : dputT i mi m env = ownT i env fun kvs => exS (fun env => (m env).bind fun d => (mi env).bind fun j => .ret (d, j)) (fun p env => match p.2 with
  | .tup ks => (match keysD ks with
    | some k => grd (kvs.length ≤ big) (.ret (.nx (env.set i (some (.dt (putD kvs k p.1))))))
    | none => .fail)
  | _ => .fail) env := (rfl)
@[simp] theorem exS_def {α : Type} {m : Env → T α} {k : α → Env → T Fl} {env : Env} : exS m k env = (m env).bindX (fun d => k d env) fun e => .ret (.ex e env) := (rfl)
@[simp] theorem tgtS_def {pt : Pt} {m : Env → T D} {env : Env} : tgtS pt m env = (exS m fun d env => match putP pt d env with
  | some env' => .ret (.nx env')
  | none => .fail) env := (rfl)
@[simp] theorem nxS_def  {env : Env} : nxS env = .ret (.nx env) := (rfl)
@[simp] theorem qMethU_def {L : EqL} {m : Str} {np : Nat} {mo : Env → T D} {ma : Env → T (List D)} {env : Env} : qMethU L m np mo ma env = (mo env).bind (methD L m np (ma env)) := (rfl)
@[simp] theorem endF_rt {d : D} : endF (.rt d) = .ret d := (rfl)
@[simp] theorem endF_nx {env : Env} : endF (.nx env) = .ret .non := (rfl)
@[simp] theorem endF_ex {e : D} {env : Env} : endF (.ex e env) = .ex e := (rfl)
@[simp] theorem endI_nx {c : Nat} {fs : List (Str × D)} {env : Env} : endI (.nx (some (.me c fs) :: env)) = .ret fs := (rfl)
@[simp] theorem endI_ex {e : D} {env : Env} : endI (.ex e env) = .ex e := (rfl)
@[simp] theorem runI_def {N c : Nat} {m : Env → T Fl} {fs : List (Str × D)} {ds : List D} : runI N m c fs ds = (m (startI N c fs ds)).noX.bind endI := (rfl)
@[simp] theorem runL_def {N : Nat} {m : Env → T D} {cs ds : List D} : runL N m cs ds = m (startE N (ds ++ cs)) := (rfl)
@[simp] theorem ownL_def {i : Nat} {env : Env} {k : List D → T Fl} : ownL i env k = match env[i]? with
  | some (some (.ls xs)) => k xs
  | _ => .fail := (rfl)
@[simp] theorem ownK_def {i : Nat} {env : Env} {k : List (Key × D) → T Fl} : ownK i env k = match env[i]? with
  | some (some (.dk xs)) => k xs
  | _ => .fail := (rfl)
@[simp] theorem ownT_def {i : Nat} {env : Env} {k : List (List Key × D) → T Fl} : ownT i env k = match env[i]? with
  | some (some (.dt xs)) => k xs
  | _ => .fail := (rfl)
@[simp] theorem ownLL_def {i : Nat} {env : Env} {k : List (List D) → T Fl} : ownLL i env k = match env[i]? with
  | some (some (.ll xs)) => k xs
  | _ => .fail := (rfl)
theorem frzE_def {i : Nat} {env : Env} : frzE i env = match env[i]? with
  | some (some o) => env.set i (some (.fz o.toD))
  | _ => env := rfl
@[simp] theorem addD_int {i j : Int} : addD (.int i) (.int j) = .ret (.int (i + j)) := (rfl)
@[simp] theorem addD_lst {xs ys : List D} : addD (.lst xs) (.lst ys) = grd (xs.length + ys.length ≤ big) (.ret (.lst (xs ++ ys))) := (rfl)
@[simp] theorem addD_tup {xs ys : List D} : addD (.tup xs) (.tup ys) = grd (xs.length + ys.length ≤ big) (.ret (.tup (xs ++ ys))) := (rfl)
@[simp] theorem subD_int {i j : Int} : subD (.int i) (.int j) = .ret (.int (i - j)) := (rfl)
@[simp] theorem mulD_int {i j : Int} : mulD (.int i) (.int j) = grd ((-18446744073709551616 < i ∧ i < 18446744073709551616) ∨ (-18446744073709551616 < j ∧ j < 18446744073709551616)) (.ret (.int (i * j))) := (rfl)
@[simp] theorem mulD_lst {xs : List D} {k : Int} : mulD (.lst xs) (.int k) = grd (0 ≤ k ∧ k ≤ 100000 ∧ xs.length * k.toNat ≤ big) (.ret (.lst (List.replicate k.toNat xs).flatten)) := (rfl)
@[simp] theorem mulD_tup {xs : List D} {k : Int} : mulD (.tup xs) (.int k) = grd (xs ≠ [] ∧ 0 ≤ k ∧ k ≤ 1000 ∧ xs.length ≤ 1000) (.ret (.tup (List.replicate k.toNat xs).flatten)) := (rfl)
@[simp] theorem modD_int {i j : Int} : modD (.int i) (.int j) = grd (0 < j) (.ret (.int (i % j))) := (rfl)
@[simp] theorem fdivD_int {i j : Int} : fdivD (.int i) (.int j) = grd (0 < j ∧ j < 1073741824) (.ret (.int (i / j))) := (rfl)
@[simp] theorem powD_int {i j : Int} : powD (.int i) (.int j) = grd (0 ≤ j ∧ j ≤ 1000 ∧ i.natAbs < 18446744073709551616) (.ret (.int (i ^ j.toNat))) := (rfl)
@[simp] theorem negD_int {i : Int} : negD (.int i) = .ret (.int (-i)) := (rfl)
@[simp] theorem ltD_int {i j : Int} : ltD (.int i) (.int j) = .ret (.bl (decide (i < j))) := (rfl)
@[simp] theorem leD_int {i j : Int} : leD (.int i) (.int j) = .ret (.bl (decide (i ≤ j))) := (rfl)
@[simp] theorem gtD_int {i j : Int} : gtD (.int i) (.int j) = .ret (.bl (decide (j < i))) := (rfl)
@[simp] theorem geD_int {i j : Int} : geD (.int i) (.int j) = .ret (.bl (decide (j ≤ i))) := (rfl)
@[simp] theorem isnD_non {d : D} : isnD d .non = .ret (.bl (isNon d)) := (rfl)
@[simp] theorem oLL2_def {m1 m2 : Env → T O} {env : Env} : oLL2 m1 m2 env = (m1 env).bind fun a => (m2 env).bind fun b => llOf a b := (rfl)
@[simp] theorem llOf_ls {xs ys : List D} : llOf (.ls xs) (.ls ys) = .ret (.ll [xs, ys]) := (rfl)
@[simp] theorem qPN_def {cs : List Nat} {mf : List D → T O} {mo : Env → T D} {env : Env} : qPN cs mf mo env = (mo env).bind (propN cs mf) := (rfl)
@[simp] theorem propN_obj {cs : List Nat} {mf : List D → T O} {c : Nat} {fs : List (Str × D)} : propN cs mf (.obj c fs) = if c ∈ cs then (mf [.obj c fs]).noX else .fail := (rfl)
@[simp] theorem notnD_non {d : D} : notnD d .non = .ret (.bl (!isNon d)) := (rfl)
@[simp] theorem isbD_bl {d : D} {b : Bool} : isbD d (.bl b) = .ret (.bl (blIs d b)) := (rfl)
@[simp] theorem notbD_bl {d : D} {b : Bool} : notbD d (.bl b) = .ret (.bl (!blIs d b)) := (rfl)
@[simp] theorem blIs_bl {b c : Bool} : blIs (.bl c) b = (c == b) := (rfl)
@[simp] theorem notD_bl {k : Bool} : notD (.bl k) = .ret (.bl (!k)) := (rfl)
@[simp] theorem truB_bl {k : Bool} : truB (.bl k) = .ret k := (rfl)
@[simp] theorem truD_bl {k : Bool} : truD (.bl k) = .ret k := (rfl)
@[simp] theorem truD_int {k : Int} : truD (.int k) = .ret (k != 0) := (rfl)
@[simp] theorem truD_non : truD .non = .ret false := (rfl)
@[simp] theorem truD_lst {xs : List D} : truD (.lst xs) = .ret (!xs.isEmpty) := (rfl)
@[simp] theorem truD_tup {xs : List D} : truD (.tup xs) = .ret (!xs.isEmpty) := (rfl)
@[simp] theorem truD_wt {xs : List D} : truD (.wt xs) = .ret (!xs.isEmpty) := (rfl)
@[simp] theorem lenF_lst {xs : List D} : lenF [.lst xs] = .ret (.int xs.length) := (rfl)
@[simp] theorem lenF_tup {xs : List D} : lenF [.tup xs] = .ret (.int xs.length) := (rfl)
@[simp] theorem lenF_wt {xs : List D} : lenF [.wt xs] = .ret (.int xs.length) := (rfl)
@[simp] theorem lenF_dK {xs : List (Key × D)} : lenF [.dK xs] = .ret (.int xs.length) := (rfl)
@[simp] theorem lenF_dT {xs : List (List Key × D)} : lenF [.dT xs] = .ret (.int xs.length) := (rfl)
@[simp] theorem listF_lst {xs : List D} : listF [.lst xs] = .ret (.lst xs) := (rfl)
@[simp] theorem listF_tup {xs : List D} : listF [.tup xs] = .ret (.lst xs) := (rfl)
@[simp] theorem listF_wt {xs : List D} : listF [.wt xs] = .ret (.lst xs) := (rfl)
@[simp] theorem tupleF_lst {xs : List D} : tupleF [.lst xs] = .ret (.tup xs) := (rfl)
@[simp] theorem tupleF_tup {xs : List D} : tupleF [.tup xs] = .ret (.tup xs) := (rfl)
@[simp] theorem intF_int {i : Int} : intF [.int i] = .ret (.int i) := (rfl)
@[simp] theorem intF_bl {k : Bool} : intF [.bl k] = .ret (.int (if k then 1 else 0)) := (rfl)
@[simp] theorem max2F_int {i j : Int} : max2F [.int i, .int j] = .ret (.int (if j > i then j else i)) := (rfl)
@[simp] theorem min2F_int {i j : Int} : min2F [.int i, .int j] = .ret (.int (if j < i then j else i)) := (rfl)
@[simp] theorem itemsD_lst {xs : List D} : itemsD (.lst xs) = .ret xs := (rfl)
@[simp] theorem itemsD_tup {xs : List D} : itemsD (.tup xs) = .ret xs := (rfl)
@[simp] theorem itemsD_wt {xs : List D} : itemsD (.wt xs) = .ret xs := (rfl)
@[simp] theorem itmD_lst {xs : List D} : itmD (.lst xs) = .ret xs := (rfl)
@[simp] theorem itmD_tup {xs : List D} : itmD (.tup xs) = .ret xs := (rfl)
@[simp] theorem itmD_wt {xs : List D} : itmD (.wt xs) = .ret xs := (rfl)
@[simp] theorem listO_lst {xs : List D} : listO (.lst xs) = .ret (.ls xs) := (rfl)
@[simp] theorem listO_tup {xs : List D} : listO (.tup xs) = .ret (.ls xs) := (rfl)
@[simp] theorem ixD_lst {xs : List D} {i : Int} : ixD (.lst xs) (.int i) = ofO (atI xs i) := (rfl)
@[simp] theorem ixD_tup {xs : List D} {i : Int} : ixD (.tup xs) (.int i) = ofO (atI xs i) := (rfl)
@[simp] theorem ixD_wt {xs : List D} {i : Int} : ixD (.wt xs) (.int i) = ofO (atI xs i) := (rfl)
@[simp] theorem itO_ls {xs : List D} {i : Int} : itO (.ls xs) (.int i) = ofO (atI xs i) := (rfl)
@[simp] theorem ofO_some {d : D} : ofO (some d) = .ret d := (rfl)
@[simp] theorem sliceD_lst {xs : List D} {lo hi : Option Int} : sliceD (.lst xs) lo hi = .ret (.lst (cutG xs lo hi)) := (rfl)
@[simp] theorem sliceD_tup {xs : List D} {lo hi : Option Int} : sliceD (.tup xs) lo hi = .ret (.tup (cutG xs lo hi)) := (rfl)
@[simp] theorem boolT_bl {n k : Bool} : boolT n (.bl k) = .ret (.bl (if n then !k else k)) := (rfl)
@[simp] theorem putP_nm {i : Nat} {d : D} {env : Env} : putP (.nm i) d env = some (env.set i (some (.fz d))) := (rfl)
@[simp] theorem putP_tup {is : List Nat} {ds : List D} {env : Env} : putP (.tp is) (.tup ds) env = if ds.length = is.length then some (putL is ds env) else none := (rfl)
@[simp] theorem putP_lst {is : List Nat} {ds : List D} {env : Env} : putP (.tp is) (.lst ds) env = if ds.length = is.length then some (putL is ds env) else none := (rfl)
@[simp] theorem putL_cons {i : Nat} {is : List Nat} {d : D} {ds : List D} {env : Env} : putL (i :: is) (d :: ds) env = putL is ds (env.set i (some (.fz d))) := (rfl)
@[simp] theorem putL_nil {env : Env} : putL [] [] env = env := (rfl)
@[simp] theorem wipeE_nil {env : Env} : wipeE env [] = env := (rfl)
@[simp] theorem wipeE_cons {env : Env} {v : Nat} {vs : List Nat} : wipeE env (v :: vs) = (wipeE env vs).set v none := (rfl)
@[simp] theorem O.toD_fz {d : D} : (O.fz d).toD = d := (rfl)
@[simp] theorem O.toD_ls {xs : List D} : (O.ls xs).toD = .lst xs := (rfl)
@[simp] theorem O.toD_ll {xs : List (List D)} : (O.ll xs).toD = .lst (xs.map .lst) := (rfl)
@[simp] theorem isNon_non : isNon .non = true := (rfl)
@[simp] theorem isNon_int {i : Int} : isNon (.int i) = false := (rfl)
@[simp] theorem isNon_bl {i : Bool} : isNon (.bl i) = false := (rfl)
@[simp] theorem isNon_str {i : Str} : isNon (.str i) = false := (rfl)
@[simp] theorem isNon_lst {i : List D} : isNon (.lst i) = false := (rfl)
@[simp] theorem isNon_tup {i : List D} : isNon (.tup i) = false := (rfl)
@[simp] theorem isNon_exc {c : Nat} {fs : List (Str × D)} : isNon (.exc c fs) = false := (rfl)
@[simp] theorem catchS_nx {xm : Nat → Option Bool} {i j : Nat} {env : Env} : catchS xm i j (.nx env) = .ret (.nx env) := (rfl)
@[simp] theorem catchS_rt {xm : Nat → Option Bool} {i j : Nat} {d : D} : catchS xm i j (.rt d) = .ret (.rt d) := (rfl)
@[simp] theorem catchS_ex {xm : Nat → Option Bool} {i j c : Nat} {env : Env} : catchS xm i j (.ex (.exc c []) env) = match xm c with
  | some true => .ret (.nx (((env.set i (some (.fz (.exc c [])))).set j (some (.fz (.exc c [])))).set i none))
  | some false => .ret (.ex (.exc c []) env)
  | none => .fail := (rfl)
@[simp] theorem forL_nil {pt : Pt} {m : Env → T Fl} {env : Env} : forL pt m [] env = .ret (.nx env) := (rfl)
@[simp] theorem compL_nil {pt : Pt} {tt : Env → T Bool} {me : Env → T D} {env : Env} : compL pt env tt me [] = .ret [] := (rfl)
@[simp] theorem fldD_obj {f : Str} {cs : List Nat} {c : Nat} {fs : List (Str × D)} : fldD f cs (.obj c fs) = if c ∈ cs then ofO (fs.lookup f) else .fail := (rfl)
@[simp] theorem propD_obj {cs : List Nat} {mf : List D → T D} {c : Nat} {fs : List (Str × D)} : propD cs mf (.obj c fs) = if c ∈ cs then (mf [.obj c fs]).noX else .fail := (rfl)
@[simp high] theorem T.retx {t : T D} {env : Env} : ((t.bindX (fun d => T.ret (Fl.rt d)) fun e => T.ret (Fl.ex e env)).noX.bind endF) = t := by
  induction t with
  | ret a => rfl
  | ex e => rfl
  | draw u k ih => exact congrArg (T.draw u) (funext ih)
  | fail => rfl
@[simp high] theorem runF_ret {N : Nat} {m : Env → T D} {ds : List D} : runF N (retS m) ds = m (startE N ds) := T.retx
section
variable {α β γ : Type} {t : T α}
@[simp] theorem T.bindX_bind {f : α → T β} {g : D → T β} {h : β → T γ} : (t.bindX f g).bind h = t.bindX (fun a => (f a).bind h) (fun e => (g e).bind h) := by
  induction t with
  | ret a => rfl
  | ex e => rfl
  | draw u k ih => exact congrArg (T.draw u) (funext ih)
  | fail => rfl
@[simp] theorem T.noX_bindX {f : α → T β} {g : D → T β} : (t.bindX f g).noX = t.bindX (fun a => (f a).noX) (fun e => (g e).noX) := by
  induction t with
  | ret a => rfl
  | ex e => rfl
  | draw u k ih => exact congrArg (T.draw u) (funext ih)
  | fail => rfl
@[simp] theorem T.bindX_exx {f : α → T β} : t.bindX f (fun e => T.ex e) = t.bind f := by
  induction t with
  | ret a => rfl
  | ex e => rfl
  | draw u k ih => exact congrArg (T.draw u) (funext ih)
  | fail => rfl
@[simp] theorem T.bind_bindX {f : α → T β} {g : β → T γ} {h : D → T γ} : (t.bind f).bindX g h = t.bindX (fun a => (f a).bindX g h) h := by
  induction t with
  | ret a => rfl
  | ex e => rfl
  | draw u k ih => exact congrArg (T.draw u) (funext ih)
  | fail => rfl
@[simp] theorem T.bind_retr : t.bind (fun a => T.ret a) = t := by
  induction t with
  | ret a => rfl
  | ex e => rfl
  | draw u k ih => exact congrArg (T.draw u) (funext ih)
  | fail => rfl
@[simp] theorem T.noX_bind {f : α → T β} : (t.bind f).noX = t.noX.bind fun a => (f a).noX := by
  induction t with
  | ret a => rfl
  | ex e => rfl
  | draw u k ih => exact congrArg (T.draw u) (funext ih)
  | fail => rfl
@[simp] theorem T.noX_noX : t.noX.noX = t.noX := by
  induction t with
  | ret a => rfl
  | ex e => rfl
  | draw u k ih => exact congrArg (T.draw u) (funext ih)
  | fail => rfl
@[simp] theorem grd_bind {c : Prop} [Decidable c] {f : α → T β} : (grd c t).bind f = grd c (t.bind f) := by unfold grd; split <;> rfl
@[simp] theorem grd_noX {c : Prop} [Decidable c] : (grd c t).noX = grd c t.noX := by unfold grd; split <;> rfl
@[simp] theorem grd_bindX {c : Prop} [Decidable c] {f : α → T β} {g : D → T β} : (grd c t).bindX f g = grd c (t.bindX f g) := by unfold grd; split <;> rfl
end
@[simp] theorem putF_1 {s : D} : putFD (Str.ofString "letters") s [] = [(Str.ofString "letters", s)] := by kernel_rfl
@[simp] theorem putF_2 {s d : D} : putFD (Str.ofString "kinds") d [(Str.ofString "letters", s)] = [(Str.ofString "letters", s), (Str.ofString "kinds", d)] := by kernel_rfl
@[simp] theorem putF_3 {s d t : D} : putFD (Str.ofString "table") t [(Str.ofString "letters", s), (Str.ofString "kinds", d)] = [(Str.ofString "letters", s), (Str.ofString "kinds", d), (Str.ofString "table", t)] := by kernel_rfl
@[simp] theorem lkF_1 {s d t : D} : List.lookup (Str.ofString "letters") [(Str.ofString "letters", s), (Str.ofString "kinds", d), (Str.ofString "table", t)] = some s := by kernel_rfl
@[simp] theorem lkF_2 {s d t : D} : List.lookup (Str.ofString "kinds") [(Str.ofString "letters", s), (Str.ofString "kinds", d), (Str.ofString "table", t)] = some d := by kernel_rfl
@[simp] theorem lkF_3 {s d t : D} : List.lookup (Str.ofString "table") [(Str.ofString "letters", s), (Str.ofString "kinds", d), (Str.ofString "table", t)] = some t := by kernel_rfl
@[simp] theorem frzE_zero_some {o : O} {env : Env} : frzE 0 (some o :: env) = some (.fz o.toD) :: env := (rfl)
@[simp] theorem frzE_zero_none {env : Env} : frzE 0 (none :: env) = none :: env := (rfl)
@[simp] theorem frzE_succ {i : Nat} {x : Option O} {env : Env} : frzE (i + 1) (x :: env) = x :: frzE i env := by
  unfold frzE
  simp only [List.getElem?_cons_succ]
  cases env[i]? with
  | none => rfl
  | some o => cases o <;> rfl
@[simp] theorem flatT_def {d : D} : flatT d = grd (flatTr d = true) (.ret d) := (rfl)
@[simp] theorem ixA_int {n : Nat} {k : Int} : ixA n (.int k) = match ixN n k with
  | some j => .ret j
  | none => .fail := (rfl)
@[simp] theorem endO_ro {o : O} : endO (.ro o) = .ret o := (rfl)
@[simp] theorem endO_rt {d : D} : endO (.rt d) = .ret (.fz d) := (rfl)
@[simp] theorem endO_nx {env : Env} : endO (.nx env) = .ret (.fz .non) := (rfl)
@[simp] theorem endO_ex {e : D} {env : Env} : endO (.ex e env) = .ex e := (rfl)
@[simp] theorem runO_def {N : Nat} {m : Env → T Fl} {ds : List D} : runO N m ds = (m (startE N ds)).noX.bind endO := (rfl)
@[simp] theorem retO_def {i : Nat} {env : Env} : retO i env = match env[i]? with
  | some (some o) => .ret (.ro o)
  | _ => .fail := (rfl)
@[simp] theorem retN_def {m : Env → T O} {env : Env} : retN m env = (m env).bindX (fun o => .ret (.ro o)) fun e => .ret (.ex e env) := (rfl)
@[simp] theorem qNO_def {f : List D → T O} {m : Env → T (List D)} {env : Env} : qNO f m env = (m env).bind f := (rfl)
@[simp] theorem retT_def {i : Nat} {m : Env → T D} {env : Env} : retT i m env = match env[i]? with
  | some (some (.ls xs)) => exS m (fun d env => .ret (.ro (.tl 0 [.non, d] xs))) env
  | _ => .fail := (rfl)
@[simp] theorem tlAt_tl {k j : Nat} {ds xs : List D} : tlAt k (.tl j ds xs) = if j = k then .ret (.ls xs) else .fail := (rfl)
@[simp] theorem catchS_ro {xm : Nat → Option Bool} {i j : Nat} {o : O} : catchS xm i j (.ro o) = .ret (.ro o) := (rfl)
@[simp] theorem O.toD_tl {k : Nat} {ds xs : List D} : (O.tl k ds xs).toD = .tup (ds.set k (.lst xs)) := (rfl)
@[simp] theorem addO_def {i : Nat} {m : Env → T D} {env : Env} : addO i m env = match env[i]? with
  | some (some (.ls xs)) => (m env).bind fun d => match d with
    | .lst ys => grd (xs.length + ys.length ≤ big) (.ret (.ls (xs ++ ys)))
    | _ => .fail
  | _ => .fail := (rfl)
@[simp] theorem tupO_def {i : Nat} {env : Env} : tupO i env = match env[i]? with
  | some (some (.ls xs)) => .ret (.tup xs)
  | _ => .fail := (rfl)
@[simp] theorem lstO_def {i : Nat} {env : Env} : lstO i env = match env[i]? with
  | some (some (.ls xs)) => .ret (.ls xs)
  | _ => .fail := (rfl)
end Pu
set_option Elab.async false
set_option linter.all false
set_option maxRecDepth 100000
set_option maxHeartbeats 4000000
namespace Pu
open PySem L2 Stp NdefX LamX
open PyProof.Rows hiding St
/-- what isinstance is asked of -/
def kd : D → Bool
  | .non => true
  | .bl _ => true
  | .int _ => true
  | .str _ => true
  | .lst _ => true
  | .tup _ => true
  | .wt _ => true
  | .dK _ => true
  | .dT _ => true
  | _ => false
def isIntD : D → Bool
  | .int _ => true
  | .bl _ => true
  | _ => false
def isBoolD : D → Bool
  | .bl _ => true
  | _ => false
def isTupD : D → Bool
  | .tup _ => true
  | .wt _ => true
  | _ => false
def isLstD : D → Bool
  | .lst _ => true
  | _ => false
/-- is_integer -/
def integerB : D → Bool
  | .int _ => true
  | _ => false
def rangeB (lo hi : Int) : D → Bool
  | .int i => decide (lo ≤ i) && decide (i < hi)
  | _ => false
def tupItems : D → Option (List D)
  | .tup xs => some xs
  | .wt xs => some xs
  | _ => none
def wordB (many : Int) (d : D) : Bool := match tupItems d with
  | some xs => decide ((xs.length : Int) ≤ 12) && xs.all (rangeB 0 many)
  | none => false
def eventsB (kinds : Int) (d : D) : Bool := match tupItems d with
  | some xs => decide ((xs.length : Int) ≤ 8) && xs.all (rangeB (-2) kinds)
  | none => false
def iD (l : List Int) : List D := l.map D.int
theorem blsD_map {α : Type} (f : α → Bool) : ∀ l : List α, blsD (l.map fun x => D.bl (f x)) = some (l.map f)
  | [] => rfl
  | a :: l => by
    show (blsD (l.map fun x => D.bl (f x))).map (f a :: ·) = _
    rw [blsD_map f l]
    rfl
@[simp] theorem allF_map {α : Type} (f : α → Bool) (l : List α) : allF [.lst (l.map fun x => D.bl (f x))] = .ret (.bl (l.all f)) := by
  show (match blsD (l.map fun x => D.bl (f x)) with
    | some bs => T.ret (D.bl (bs.all id))
    | none => .fail) = _
  rw [blsD_map f l]
  simp [List.all_map, Function.comp_def]
@[simp] theorem anyF_map {α : Type} (f : α → Bool) (l : List α) : anyF [.lst (l.map fun x => D.bl (f x))] = .ret (.bl (l.any f)) := by
  show (match blsD (l.map fun x => D.bl (f x)) with
    | some bs => T.ret (D.bl (bs.any id))
    | none => .fail) = _
  rw [blsD_map f l]
  simp [List.any_map, Function.comp_def]
theorem atI_nat {α : Type} {xs : List α} {i : Int} (h : 0 ≤ i) : atI xs i = xs[i.toNat]? := by
  unfold atI ixN
  rw [if_pos h]
  split
  · rfl
  · rw [List.getElem?_eq_none (by omega)]; rfl
theorem atI_last {α : Type} {xs : List α} (h : xs ≠ []) : atI xs (-1) = xs.getLast? := by
  have hl : 0 < xs.length := List.length_pos_iff.mpr h
  unfold atI ixN
  rw [if_neg (by decide), if_pos (by omega)]
  show xs[((-1 : Int) + xs.length).toNat]? = _
  rw [List.getLast?_eq_getElem?]
  congr 1
  omega
@[simp] theorem iD_length (l : List Int) : (iD l).length = l.length := List.length_map ..
mutual
/-- plain data -/
def okD : D → Bool
  | .non => true
  | .bl _ => true
  | .int _ => true
  | .str _ => true
  | .tup xs => okL xs
  | .lst xs => okL xs
  | .wt xs => okL xs
  | .dK kvs => okK kvs
  | .dT kvs => okT kvs
  | _ => false
def okL : List D → Bool
  | [] => true
  | d :: ds => okD d && okL ds
def okK : List (Key × D) → Bool
  | [] => true
  | (_, d) :: ds => okD d && okK ds
def okT : List (List Key × D) → Bool
  | [] => true
  | (_, d) :: ds => okD d && okT ds
end
theorem okD_kd {d : D} (h : okD d = true) : kd d = true := by cases d <;> first | rfl | (simp [okD] at h)
mutual
theorem okD_plain : ∀ {d : D}, okD d = true → plainD d = true
  | .non, _ => rfl
  | .bl _, _ => rfl
  | .int _, _ => rfl
  | .str _, _ => rfl
  | .tup xs, h => okL_plain (ds := xs) (by simpa [okD] using h)
  | .lst xs, h => okL_plain (ds := xs) (by simpa [okD] using h)
  | .wt xs, h => okL_plain (ds := xs) (by simpa [okD] using h)
  | .dK kvs, h => okK_plain (ds := kvs) (by simpa [okD] using h)
  | .dT kvs, h => okT_plain (ds := kvs) (by simpa [okD] using h)
  | .obj _ _, h => by simp [okD] at h
  | .exc _ _, h => by simp [okD] at h
  | .fn _ _, h => by simp [okD] at h
  | .ty _, h => by simp [okD] at h
  | .cls _, h => by simp [okD] at h
  | .pen, h => by simp [okD] at h
  | .scr, h => by simp [okD] at h
  | .bw _, h => by simp [okD] at h
  | .rf _, h => by simp [okD] at h
  | .dN _, h => by simp [okD] at h
theorem okL_plain : ∀ {ds : List D}, okL ds = true → plainL ds = true
  | [], _ => rfl
  | d :: ds, h => by
    rw [okL, Bool.and_eq_true] at h
    rw [plainL, okD_plain h.1, okL_plain h.2]; rfl
theorem okK_plain : ∀ {ds : List (Key × D)}, okK ds = true → plainK ds = true
  | [], _ => rfl
  | (k, d) :: ds, h => by
    rw [okK, Bool.and_eq_true] at h
    rw [plainK, okD_plain h.1, okK_plain h.2]; rfl
theorem okT_plain : ∀ {ds : List (List Key × D)}, okT ds = true → plainT ds = true
  | [], _ => rfl
  | (k, d) :: ds, h => by
    rw [okT, Bool.and_eq_true] at h
    rw [plainT, okD_plain h.1, okT_plain h.2]; rfl
end
theorem okL_iff {ds : List D} : okL ds = true ↔ ∀ d ∈ ds, okD d = true := by
  induction ds with
  | nil => simp [okL]
  | cons d ds ih => rw [okL, Bool.and_eq_true, ih]; simp
@[simp] theorem okL_append {xs ys : List D} : okL (xs ++ ys) = (okL xs && okL ys) := by
  induction xs with
  | nil => simp [okL]
  | cons d ds ih => simp [okL, ih, Bool.and_assoc]
@[simp] theorem okD_int {i : Int} : okD (.int i) = true := rfl
@[simp] theorem okD_bl {i : Bool} : okD (.bl i) = true := rfl
@[simp] theorem okD_str {i : Str} : okD (.str i) = true := rfl
@[simp] theorem okD_non : okD .non = true := rfl
@[simp] theorem okD_tup {xs : List D} : okD (.tup xs) = okL xs := by rw [okD]
@[simp] theorem okD_wt {xs : List D} : okD (.wt xs) = okL xs := by rw [okD]
@[simp] theorem okD_lst {xs : List D} : okD (.lst xs) = okL xs := by rw [okD]
@[simp] theorem okD_dK {xs : List (Key × D)} : okD (.dK xs) = okK xs := by rw [okD]
@[simp] theorem okD_dT {xs : List (List Key × D)} : okD (.dT xs) = okT xs := by rw [okD]
@[simp] theorem okL_nil : okL [] = true := rfl
@[simp] theorem okL_cons {d : D} {ds : List D} : okL (d :: ds) = (okD d && okL ds) := by rw [okL]
@[simp] theorem okK_nil : okK [] = true := rfl
@[simp] theorem okL_iD (l : List Int) : okL (iD l) = true := okL_iff.mpr fun d h => by
  obtain ⟨i, _, rfl⟩ := List.mem_map.mp h
  rfl
@[simp] theorem okL_map {α : Type} {f : α → D} {l : List α} : okL (l.map f) = l.all fun x => okD (f x) := by
  induction l with
  | nil => rfl
  | cons a l ih => simp [okL, ih]
/-- is_move, is_row, are_rows -/
def moveB (fb : D → Bool) (n : Int) (d : D) : Bool := match tupItems d with
  | some [a, b] => fb a && rangeB 0 n b
  | _ => false
def rowB (fb : D → Bool) (moves n : Int) : D → Bool
  | .lst xs => decide ((xs.length : Int) = moves) && xs.all (moveB fb n)
  | _ => false
def rowsB (fb : D → Bool) (moves most : Int) : D → Bool
  | .lst xs => decide ((1 : Int) ≤ xs.length) && decide ((xs.length : Int) ≤ most) && xs.all (rowB fb moves xs.length)
  | _ => false
def numsB : D → D → Bool
  | .int s, .int d => decide (2 ≤ s) && decide (s ≤ 6) && (decide (1 ≤ d) && decide (d ≤ 6))
  | _, _ => false
@[simp] theorem eqD_int {i j : Int} : eqD (.int i) (.int j) = .ret (.bl (i == j)) := by
  show grd (SeqAt.shaped (.int i) = true ∧ SeqAt.shaped (.int j) = true) (T.ret (D.bl (PyData.eqv (.int i) (.int j)))) = _
  rw [grd_pos ⟨rfl, rfl⟩]
  simp [PyData.eqv]
@[simp] theorem neD_int {i j : Int} : neD (.int i) (.int j) = .ret (.bl (!(i == j))) := by
  show grd (SeqAt.shaped (.int i) = true ∧ SeqAt.shaped (.int j) = true) (T.ret (D.bl (!PyData.eqv (.int i) (.int j)))) = _
  rw [grd_pos ⟨rfl, rfl⟩]
  simp [PyData.eqv]
@[simp] theorem eqD_str {x y : Str} : eqD (.str x) (.str y) = .ret (.bl (decide (x = y))) := (rfl)
@[simp] theorem neD_str {x y : Str} : neD (.str x) (.str y) = .ret (.bl (!decide (x = y))) := (rfl)
theorem rowsB_lst {fb : D → Bool} {k n : Int} {rs : List D} (h : rowsB fb k n (.lst rs) = true) : ∀ r ∈ rs, isLstD r = true := fun r m => by
  simp only [rowsB, Bool.and_eq_true, List.all_eq_true] at h
  have := h.2 r m
  cases r <;> first | rfl | (simp [rowB] at this)
abbrev Mv := List Int × Int
structure Mch where
  many : Int
  kinds : Int
  rows : List (List Mv)
def mvD (m : Mv) : D := .tup [.tup (iD m.1), .int m.2]
def rowD (r : List Mv) : D := .lst (r.map mvD)
def tabD (t : List (List Mv)) : D := .lst (t.map rowD)
/-- a law's machine -/
def lawD (m : Mch) : D := .tup [.int m.many, .int m.kinds, tabD m.rows]
/-- an object -/
def objD (c : Nat) (m : Mch) : D := .obj c [("letters", .int m.many), ("kinds", .int m.kinds), ("table", tabD m.rows)]
@[simp] theorem fldD_letters {cs : List Nat} {c : Nat} {m : Mch} : fldD "letters" cs (objD c m) = if c ∈ cs then .ret (.int m.many) else .fail := by simp [objD]
@[simp] theorem fldD_kinds {cs : List Nat} {c : Nat} {m : Mch} : fldD "kinds" cs (objD c m) = if c ∈ cs then .ret (.int m.kinds) else .fail := by simp [objD]
@[simp] theorem fldD_table {cs : List Nat} {c : Nat} {m : Mch} : fldD "table" cs (objD c m) = if c ∈ cs then .ret (tabD m.rows) else .fail := by simp [objD]
@[simp] theorem propD_objD {cs : List Nat} {mf : List D → T D} {c : Nat} {m : Mch} : propD cs mf (objD c m) = if c ∈ cs then (mf [objD c m]).noX else .fail := (rfl)
@[simp] theorem isCO_objD {c c' : Nat} {m : Mch} : isCO c (some (some (.fz (objD c' m)))) = (c' == c) := (rfl)
@[simp] theorem methF_step {c c' np : Nat} {mf : List D → T D} {ma : T (List D)} {m : Mch} : methF c "step" np mf ma (objD c' m) = if c' = c then ma.bind fun ds => grd (ds.length + 1 = np) (mf (objD c' m :: ds)) else .fail := by
  have h : List.lookup (Str.ofString "step") [(Str.ofString "letters", D.int m.many), (Str.ofString "kinds", .int m.kinds), (Str.ofString "table", tabD m.rows)] = none := by kernel_rfl
  show (if c' = c ∧ List.lookup (Str.ofString "step") [(Str.ofString "letters", D.int m.many), (Str.ofString "kinds", .int m.kinds), (Str.ofString "table", tabD m.rows)] = none then _ else _) = _
  rw [h]
  by_cases hc : c' = c <;> simp [hc, objD]
@[simp] theorem methF_place {c c' np : Nat} {mf : List D → T D} {ma : T (List D)} {m : Mch} : methF c "place" np mf ma (objD c' m) = if c' = c then ma.bind fun ds => grd (ds.length + 1 = np) (mf (objD c' m :: ds)) else .fail := by
  have h : List.lookup (Str.ofString "place") [(Str.ofString "letters", D.int m.many), (Str.ofString "kinds", .int m.kinds), (Str.ofString "table", tabD m.rows)] = none := by kernel_rfl
  show (if c' = c ∧ List.lookup (Str.ofString "place") [(Str.ofString "letters", D.int m.many), (Str.ofString "kinds", .int m.kinds), (Str.ofString "table", tabD m.rows)] = none then _ else _) = _
  rw [h]
  by_cases hc : c' = c <;> simp [hc, objD]
@[simp] theorem methF_check_state {c c' np : Nat} {mf : List D → T D} {ma : T (List D)} {m : Mch} : methF c "check_state" np mf ma (objD c' m) = if c' = c then ma.bind fun ds => grd (ds.length + 1 = np) (mf (objD c' m :: ds)) else .fail := by
  have h : List.lookup (Str.ofString "check_state") [(Str.ofString "letters", D.int m.many), (Str.ofString "kinds", .int m.kinds), (Str.ofString "table", tabD m.rows)] = none := by kernel_rfl
  show (if c' = c ∧ List.lookup (Str.ofString "check_state") [(Str.ofString "letters", D.int m.many), (Str.ofString "kinds", .int m.kinds), (Str.ofString "table", tabD m.rows)] = none then _ else _) = _
  rw [h]
  by_cases hc : c' = c <;> simp [hc, objD]
@[simp] theorem methF_with_step {c c' np : Nat} {mf : List D → T D} {ma : T (List D)} {m : Mch} : methF c "with_step" np mf ma (objD c' m) = if c' = c then ma.bind fun ds => grd (ds.length + 1 = np) (mf (objD c' m :: ds)) else .fail := by
  have h : List.lookup (Str.ofString "with_step") [(Str.ofString "letters", D.int m.many), (Str.ofString "kinds", .int m.kinds), (Str.ofString "table", tabD m.rows)] = none := by kernel_rfl
  show (if c' = c ∧ List.lookup (Str.ofString "with_step") [(Str.ofString "letters", D.int m.many), (Str.ofString "kinds", .int m.kinds), (Str.ofString "table", tabD m.rows)] = none then _ else _) = _
  rw [h]
  by_cases hc : c' = c <;> simp [hc, objD]
@[simp] theorem methF_changed {c c' np : Nat} {mf : List D → T D} {ma : T (List D)} {m : Mch} : methF c "changed" np mf ma (objD c' m) = if c' = c then ma.bind fun ds => grd (ds.length + 1 = np) (mf (objD c' m :: ds)) else .fail := by
  have h : List.lookup (Str.ofString "changed") [(Str.ofString "letters", D.int m.many), (Str.ofString "kinds", .int m.kinds), (Str.ofString "table", tabD m.rows)] = none := by kernel_rfl
  show (if c' = c ∧ List.lookup (Str.ofString "changed") [(Str.ofString "letters", D.int m.many), (Str.ofString "kinds", .int m.kinds), (Str.ofString "table", tabD m.rows)] = none then _ else _) = _
  rw [h]
  by_cases hc : c' = c <;> simp [hc, objD]
structure NumOk (m : Mch) : Prop where
  m1 : 2 ≤ m.many
  m2 : m.many ≤ 6
  k1 : 1 ≤ m.kinds
  k2 : m.kinds ≤ 6
def Within (lo hi : Int) (w : List Int) : Prop := ∀ x ∈ w, lo ≤ x ∧ x < hi
/-- the moves: how many in a row, what they are, how many states at most -/
structure TabOk (t : List (List Mv)) (moves : Int) (lo hi : Int) (ln : Nat) (most : Nat) : Prop where
  ne : 1 ≤ t.length
  le : t.length ≤ most
  row : ∀ r ∈ t, (r.length : Int) = moves
  mv : ∀ r ∈ t, ∀ v ∈ r, v.1.length ≤ ln ∧ Within lo hi v.1 ∧ 0 ≤ v.2 ∧ v.2 < t.length
structure WOk (m : Mch) : Prop where
  num : NumOk m
  tab : TabOk m.rows (m.kinds + 1) 0 m.many 12 24
structure ROk (m : Mch) : Prop where
  num : NumOk m
  tab : TabOk m.rows m.many (-2) m.kinds 8 40
theorem allRange {lo hi : Int} {w : List Int} (h : Within lo hi w) : (iD w).all (rangeB lo hi) = true := by
  rw [List.all_eq_true]
  intro d hd
  obtain ⟨i, hi, rfl⟩ := List.mem_map.mp hd
  simp [rangeB, h i hi]
theorem wordB_ok {many : Int} {w : List Int} (h1 : w.length ≤ 12) (h2 : Within 0 many w) : wordB many (.tup (iD w)) = true := by
  simp only [wordB, tupItems, allRange h2, Bool.and_true, decide_eq_true_eq, iD_length]
  omega
theorem eventsB_ok {kinds : Int} {w : List Int} (h1 : w.length ≤ 8) (h2 : Within (-2) kinds w) : eventsB kinds (.tup (iD w)) = true := by
  simp only [eventsB, tupItems, allRange h2, Bool.and_true, decide_eq_true_eq, iD_length]
  omega
theorem rowsB_ok {t : List (List Mv)} {moves lo hi : Int} {ln most : Nat} {fb : D → Bool} (h : TabOk t moves lo hi ln most) (hf : ∀ w : List Int, w.length ≤ ln → Within lo hi w → fb (.tup (iD w)) = true) : rowsB fb moves most (tabD t) = true := by
  have h1 := h.ne
  have h2 := h.le
  simp only [rowsB, tabD, List.length_map, Bool.and_eq_true, decide_eq_true_eq, List.all_eq_true]
  refine ⟨⟨by omega, by omega⟩, fun d hd => ?_⟩
  obtain ⟨r, hr, rfl⟩ := List.mem_map.mp hd
  simp only [rowB, rowD, List.length_map, Bool.and_eq_true, decide_eq_true_eq, List.all_eq_true]
  refine ⟨h.row r hr, fun d hd => ?_⟩
  obtain ⟨v, hv, rfl⟩ := List.mem_map.mp hd
  obtain ⟨g1, g2, g3, g4⟩ := h.mv r hr v hv
  simp [moveB, mvD, tupItems, rangeB, hf v.1 g1 g2, g3, g4]
theorem okD_mvD (v : Mv) : okD (mvD v) = true := by simp [mvD]
theorem okD_rowD (r : List Mv) : okD (rowD r) = true := by simp [rowD, okD_mvD]
theorem okD_tabD (t : List (List Mv)) : okD (tabD t) = true := by simp [tabD, okD_rowD]
theorem numsB_ok {m : Mch} (h : NumOk m) : numsB (.int m.many) (.int m.kinds) = true := by
  simp [numsB, h.m1, h.m2, h.k1, h.k2]
theorem wb_drawF {u : Int} {k : Nat} {Q : Nat → D → Prop} {E : Nat → D → Prop} (hk : 0 < k) (h0 : 0 < u) (h1 : u < 1073741824) (h : ∀ i : Int, 0 ≤ i → i < u → Q (k - 1) (.int i)) : Wb k (drawF [.pen, .int u]) Q E := by
  rw [drawF_def, if_pos ⟨h0, h1⟩]
  exact wb_draw hk (by omega) (by omega) fun d hd => wb_ret (h d (by omega) (by omega))
theorem map_of {α : Type} {f : α → D} {P : α → Prop} {r : List D} (h : ∀ (j : Nat) (y : D), r[j]? = some y → ∃ x, y = f x ∧ P x) : ∃ w : List α, r = w.map f ∧ ∀ x ∈ w, P x := by
  induction r with
  | nil => exact ⟨[], rfl, fun _ m => nomatch m⟩
  | cons d r ih =>
    obtain ⟨w, e, hw⟩ := ih fun j y e => h (j + 1) y (by simpa using e)
    obtain ⟨x, ex, hx⟩ := h 0 d rfl
    refine ⟨x :: w, by rw [ex, e]; rfl, fun y hy => ?_⟩
    rcases List.mem_cons.mp hy with rfl | hy
    · exact hx
    · exact hw y hy
theorem ints_of {lo hi : Int} {r : List D} (h : ∀ (j : Nat) (y : D), r[j]? = some y → ∃ x, y = .int x ∧ lo ≤ x ∧ x < hi) : ∃ w : List Int, r = iD w ∧ Within lo hi w := map_of h
/-- a drawn move -/
def MvP (lo hi ln n : Int) (v : Mv) : Prop := (v.1.length : Int) ≤ ln ∧ Within lo hi v.1 ∧ 0 ≤ v.2 ∧ v.2 < n
def MvX (lo hi ln n : Int) (y : D) : Prop := ∃ v, y = mvD v ∧ MvP lo hi ln n v
/-- a drawn row -/
def RowP (moves lo hi ln n : Int) (r : List Mv) : Prop := (r.length : Int) = moves ∧ ∀ v ∈ r, MvP lo hi ln n v
def I_tab (a b c d e n : Int) (mo lo hi : Int) (j : Nat) (env : Env) : Prop := ∃ (rs : List (List Mv)) (x y z : Option O), env = [some (.fz .pen), some (.fz (.int a)), some (.fz (.int b)), some (.fz (.int c)), some (.fz (.int d)), some (.fz (.int n)), some (.ls (rs.map rowD)), x, y, z] ∧ rs.length = j ∧ ∀ r ∈ rs, RowP mo lo hi e n r
theorem rows_ok {rs : List (List Mv)} {mo lo hi ln n most : Int} (hl : (rs.length : Int) = n) (h0 : 1 ≤ n) (hm : n ≤ most) (h : ∀ r ∈ rs, RowP mo lo hi ln n r) : TabOk rs mo lo hi ln.toNat most.toNat :=
  ⟨by omega, by omega, fun r hr => (h r hr).1, fun r hr v hv => ⟨by have := ((h r hr).2 v hv).1; omega, ((h r hr).2 v hv).2.1, ((h r hr).2 v hv).2.2.1, by have := ((h r hr).2 v hv).2.2.2; omega⟩⟩
def withinB (lo hi : Int) (w : List Int) : Bool := w.all fun x => decide (lo ≤ x) && decide (x < hi)
def tabB (t : List (List Mv)) (moves lo hi : Int) (ln most : Nat) : Bool := decide (1 ≤ t.length) && decide (t.length ≤ most) && t.all fun r => decide ((r.length : Int) = moves) && r.all fun v => decide (v.1.length ≤ ln) && withinB lo hi v.1 && decide (0 ≤ v.2) && decide (v.2 < t.length)
theorem withinB_ok {lo hi : Int} {w : List Int} (h : withinB lo hi w = true) : Within lo hi w := fun x hx => by
  have := List.all_eq_true.mp h x hx
  simpa using this
theorem tabB_ok {t : List (List Mv)} {moves lo hi : Int} {ln most : Nat} (h : tabB t moves lo hi ln most = true) : TabOk t moves lo hi ln most := by
  simp only [tabB, Bool.and_eq_true, decide_eq_true_eq, List.all_eq_true] at h
  exact ⟨h.1.1, h.1.2, fun r hr => (h.2 r hr).1, fun r hr v hv => ⟨((h.2 r hr).2 v hv).1.1.1, withinB_ok ((h.2 r hr).2 v hv).1.1.2, ((h.2 r hr).2 v hv).1.2, ((h.2 r hr).2 v hv).2⟩⟩
structure DuoOk (w r : Mch) (most : Int) : Prop where
  num : NumOk w
  few : w.many ≤ 4
  kin : w.kinds ≤ most
  many : r.many = w.many
  kinds : r.kinds = w.kinds
  wt : TabOk w.rows (w.kinds + 1) 0 w.many 2 3
  rt : TabOk r.rows w.many (-2) w.kinds 2 5
theorem TabOk.more {t : List (List Mv)} {moves lo hi : Int} {ln ln2 most most2 : Nat} (h : TabOk t moves lo hi ln most) (h1 : ln ≤ ln2) (h2 : most ≤ most2) : TabOk t moves lo hi ln2 most2 :=
  ⟨h.ne, Nat.le_trans h.le h2, h.row, fun r hr v hv => ⟨Nat.le_trans (h.mv r hr v hv).1 h1, (h.mv r hr v hv).2⟩⟩
theorem DuoOk.w {w r : Mch} {most : Int} (h : DuoOk w r most) : WOk w := ⟨h.num, h.wt.more (by decide) (by decide)⟩
theorem DuoOk.r {w r : Mch} {most : Int} (h : DuoOk w r most) : ROk r := ⟨⟨by rw [h.many]; exact h.num.m1, by rw [h.many]; exact h.num.m2, by rw [h.kinds]; exact h.num.k1, by rw [h.kinds]; exact h.num.k2⟩, by rw [h.many, h.kinds]; exact h.rt.more (by decide) (by decide)⟩
/-- the move at a place -/
def mvAt (t : List (List Mv)) (i j : Nat) : Mv := (t.getD i []).getD j ([], 0)
def setMv (t : List (List Mv)) (i j : Nat) (v : Mv) : List (List Mv) := t.set i ((t.getD i []).set j v)
@[simp] theorem itemsD_tab (t : List (List Mv)) : itemsD (tabD t) = .ret (t.map rowD) := rfl
@[simp] theorem itemsD_row (r : List Mv) : itemsD (rowD r) = .ret (r.map mvD) := rfl
@[simp] theorem lenF_tab (t : List (List Mv)) : lenF [tabD t] = .ret (.int t.length) := by simp [tabD]
@[simp] theorem lenF_row (r : List Mv) : lenF [rowD r] = .ret (.int r.length) := by simp [rowD]
@[simp] theorem ix_mv0 {v : Mv} : ixD (mvD v) (.int 0) = .ret (.tup (iD v.1)) := rfl
@[simp] theorem ix_mv1 {v : Mv} : ixD (mvD v) (.int 1) = .ret (.int v.2) := rfl
theorem TabOk.row_at {t : List (List Mv)} {moves lo hi : Int} {ln most : Nat} (h : TabOk t moves lo hi ln most) {i : Nat} (hi : i < t.length) : t.getD i [] ∈ t ∧ ((t.getD i []).length : Int) = moves := by
  have m : t.getD i [] ∈ t := by
    rw [List.getD_eq_getElem?_getD, List.getElem?_eq_getElem hi]
    exact List.getElem_mem ..
  exact ⟨m, h.row _ m⟩
theorem TabOk.at_ {t : List (List Mv)} {moves lo up : Int} {ln most : Nat} (h : TabOk t moves lo up ln most) {i j : Nat} (hi : i < t.length) (hj : (j : Int) < moves) : (mvAt t i j).1.length ≤ ln ∧ Within lo up (mvAt t i j).1 ∧ 0 ≤ (mvAt t i j).2 ∧ (mvAt t i j).2 < t.length := by
  obtain ⟨m, e⟩ := h.row_at hi
  have m2 : mvAt t i j ∈ t.getD i [] := by
    unfold mvAt
    generalize t.getD i [] = r at m e
    rw [List.getD_eq_getElem?_getD, List.getElem?_eq_getElem (by omega)]
    exact List.getElem_mem ..
  exact h.mv _ m _ m2
theorem setMv_len (t : List (List Mv)) (i j : Nat) (v : Mv) : (setMv t i j v).length = t.length := by simp [setMv]
theorem TabOk.set {t : List (List Mv)} {moves lo up : Int} {ln most : Nat} (h : TabOk t moves lo up ln most) {i j : Nat} {v : Mv} (hi : i < t.length) (h1 : v.1.length ≤ ln) (h2 : Within lo up v.1) (h3 : 0 ≤ v.2) (h4 : v.2 < t.length) : TabOk (setMv t i j v) moves lo up ln most := by
  obtain ⟨m, e⟩ := h.row_at hi
  refine ⟨by rw [setMv_len]; exact h.ne, by rw [setMv_len]; exact h.le, fun r hr => ?_, fun r hr u hu => ?_⟩
  · rcases List.mem_or_eq_of_mem_set hr with hr | rfl
    · exact h.row r hr
    · rw [List.length_set]; exact e
  · rw [setMv_len]
    rcases List.mem_or_eq_of_mem_set hr with hr | rfl
    · exact h.mv r hr u hu
    · rcases List.mem_or_eq_of_mem_set hu with hu | rfl
      · exact h.mv _ m u hu
      · exact ⟨h1, h2, h3, h4⟩
def rowsL (t : List (List Mv)) : List (List D) := t.map fun r => r.map mvD
@[simp] theorem rowsL_len (t : List (List Mv)) : (rowsL t).length = t.length := List.length_map ..
theorem rowsL_toD (t : List (List Mv)) : D.lst ((rowsL t).map .lst) = tabD t := by
  unfold rowsL tabD
  rw [List.map_map]
  rfl
theorem rowsL_get (t : List (List Mv)) (i : Nat) : (rowsL t)[i]?.getD [] = (t.getD i []).map mvD := by
  unfold rowsL
  rw [List.getElem?_map, List.getD_eq_getElem?_getD]
  cases t[i]? <;> rfl
@[simp] theorem flatTr_iD (w : List Int) : flatTr (.tup (iD w)) = true := by
  show flatTrL (iD w) = true
  induction w with
  | nil => rfl
  | cons x w ih => exact ih
theorem cutG_drop {α : Type} (xs : List α) {k : Int} (h : 0 ≤ k) : cutG xs (some k) none = xs.drop k.toNat := by
  unfold cutG
  simp only [HT.sIx, if_neg (show ¬ k < 0 by omega)]
  rw [List.take_of_length_le (by rw [List.length_drop]; omega), Nat.min_def]
  split
  · rfl
  · rw [List.drop_eq_nil_of_le (Nat.le_refl _), List.drop_eq_nil_of_le (by omega)]
@[simp] theorem take_iD (n : Nat) (w : List Int) : (iD w).take n = iD (w.take n) := List.map_take.symm
@[simp] theorem drop_iD (n : Nat) (w : List Int) : (iD w).drop n = iD (w.drop n) := List.map_drop.symm
@[simp] theorem init_iD (w : List Int) : (iD w).dropLast = iD w.dropLast := by
  simp [iD, List.dropLast_eq_take, List.map_take]
end Pu
set_option Elab.async false
set_option linter.all false
set_option maxRecDepth 100000
set_option maxHeartbeats 4000000
namespace Pu
open PySem L2 Stp NdefX LamX
open PyProof.Rows hiding St
def lvKey : Key → Bool
  | .inl i => decide (i.natAbs < 10 ^ 40)
  | .inr x => x.cps.toList.all fun c => decide (c < 16 ^ 8)
def bkKey : Key → Nat
  | .inl _ => 0
  | .inr x => x.cps.size
mutual
def lvD : D → Bool
  | .non => true
  | .bl _ => true
  | .int i => decide (i.natAbs < 10 ^ 40)
  | .str x => x.cps.toList.all fun c => decide (c < 16 ^ 8)
  | .tup xs => lvL xs
  | .wt xs => lvL xs
  | .lst xs => lvL xs
  | .dK kvs => lvK kvs
  | .dT kvs => lvT kvs
  | .dN kvs => lvDn kvs
  | _ => false
def lvL : List D → Bool
  | [] => true
  | d :: ds => lvD d && lvL ds
def lvK : List (Key × D) → Bool
  | [] => true
  | (k, d) :: ds => lvKey k && lvD d && lvK ds
def lvT : List (List Key × D) → Bool
  | [] => true
  | (k, d) :: ds => k.all lvKey && lvD d && lvT ds
def lvDn : List (D × D) → Bool
  | [] => true
  | (k, d) :: ds => lvD k && lvD d && lvDn ds
end
mutual
def bkD : D → Nat
  | .str x => x.cps.size
  | .tup xs => bkL xs
  | .wt xs => bkL xs
  | .lst xs => bkL xs
  | .dK kvs => bkK kvs
  | .dT kvs => bkT kvs
  | .dN kvs => bkDn kvs
  | _ => 0
def bkL : List D → Nat
  | [] => 0
  | d :: ds => bkD d + 1 + bkL ds
def bkK : List (Key × D) → Nat
  | [] => 0
  | (k, d) :: ds => bkKey k + bkD d + 2 + bkK ds
def bkT : List (List Key × D) → Nat
  | [] => 0
  | (k, d) :: ds => (k.map fun x => bkKey x + 1).sum + bkD d + 2 + bkT ds
def bkDn : List (D × D) → Nat
  | [] => 0
  | (k, d) :: ds => bkD k + bkD d + 2 + bkDn ds
end
mutual
def dpD : D → Nat
  | .tup xs => dpL xs + 1
  | .wt xs => dpL xs + 1
  | .lst xs => dpL xs + 1
  | .dK kvs => dpK kvs + 1
  | .dT kvs => dpT kvs + 1
  | .dN kvs => dpDn kvs + 1
  | _ => 0
def dpL : List D → Nat
  | [] => 0
  | d :: ds => max (dpD d) (dpL ds)
def dpK : List (Key × D) → Nat
  | [] => 0
  | (_, d) :: ds => max (dpD d) (dpK ds)
def dpT : List (List Key × D) → Nat
  | [] => 0
  | (_, d) :: ds => max (max 1 (dpD d)) (dpT ds)
def dpDn : List (D × D) → Nat
  | [] => 0
  | (k, d) :: ds => max (max (dpD k) (dpD d)) (dpDn ds)
end
theorem int_show {i : Int} (h : i.natAbs < 10 ^ 40) : (PyData.int i).showable = true ∧ (PyData.int i).leavesShort 45 = true := by
  constructor
  · simp only [PyData.showable, decide_eq_true_eq]
    by_cases h0 : i.natAbs = 0
    · rw [h0]; decide
    · exact (Nat.log2_lt h0).mpr (Nat.lt_of_lt_of_le h (Nat.le_trans (show 10 ^ 40 ≤ 2 ^ 200 by decide) (Nat.pow_le_pow_right (by decide) (by decide))))
  · have := int_text_length_le10 (a := i) (k := 40) (by decide) h
    simp only [PyData.leavesShort, PyData.shown]
    exact decide_eq_true (by rw [PySem.ofString_length]; omega)
theorem key_show {k : Key} (h : lvKey k = true) : (kP k).showable = true ∧ (kP k).leavesShort 45 = true ∧ (kP k).bulk = bkKey k ∧ (kP k).depth = 0 := by
  cases k with
  | inl i =>
    have := int_show (i := i) (by simpa [lvKey] using h)
    exact ⟨this.1, this.2, rfl, rfl⟩
  | inr x =>
    refine ⟨rfl, ?_, rfl, rfl⟩
    simpa [kP, PyData.leavesShort, lvKey] using h
theorem lkeys_show : ∀ {ks : List Key}, ks.all lvKey = true → PyData.showableAll (ks.map kP) = true ∧ PyData.leavesShortAll 45 (ks.map kP) = true ∧ PyData.bulkAll (ks.map kP) = (ks.map fun x => bkKey x + 1).sum ∧ PyData.depthAll (ks.map kP) = 0
  | [], _ => ⟨rfl, rfl, rfl, rfl⟩
  | k :: ks, h => by
    rw [List.all_cons, Bool.and_eq_true] at h
    obtain ⟨a1, a2, a3, a4⟩ := key_show h.1
    obtain ⟨b1, b2, b3, b4⟩ := lkeys_show h.2
    simp only [List.map_cons, PyData.showableAll, PyData.leavesShortAll, PyData.bulkAll, PyData.depthAll, a1, a2, a3, a4, b1, b2, b3, b4, List.sum_cons]
    exact ⟨by simp, by simp, by simp, by simp⟩
mutual
theorem pr_of : ∀ {d : D}, lvD d = true → ∃ x, d.pr = some x ∧ x.showable = true ∧ x.leavesShort 45 = true ∧ x.bulk = bkD d ∧ x.depth ≤ dpD d
  | .non, _ => ⟨_, rfl, rfl, rfl, rfl, Nat.le_refl _⟩
  | .bl _, _ => ⟨_, rfl, rfl, rfl, rfl, Nat.le_refl _⟩
  | .int i, h => ⟨_, rfl, (int_show (i := i) (by simpa [lvD] using h)).1, (int_show (i := i) (by simpa [lvD] using h)).2, rfl, Nat.le_refl _⟩
  | .str x, h => ⟨_, rfl, rfl, by simpa [PyData.leavesShort, lvD] using h, by simp [PyData.bulk, bkD], Nat.le_refl _⟩
  | .tup xs, h => by
    obtain ⟨ys, e, h1, h2, h3, h4⟩ := prL_of (ds := xs) (by simpa [lvD] using h)
    exact ⟨.tuple ys, by simp [D.pr, e], by simpa [PyData.showable] using h1, by simpa [PyData.leavesShort] using h2, by simpa [PyData.bulk, bkD] using h3, by simpa [PyData.depth, dpD] using h4⟩
  | .wt xs, h => by
    obtain ⟨ys, e, h1, h2, h3, h4⟩ := prL_of (ds := xs) (by simpa [lvD] using h)
    exact ⟨.tuple ys, by simp [D.pr, e], by simpa [PyData.showable] using h1, by simpa [PyData.leavesShort] using h2, by simpa [PyData.bulk, bkD] using h3, by simpa [PyData.depth, dpD] using h4⟩
  | .lst xs, h => by
    obtain ⟨ys, e, h1, h2, h3, h4⟩ := prL_of (ds := xs) (by simpa [lvD] using h)
    exact ⟨.list ys, by simp [D.pr, e], by simpa [PyData.showable] using h1, by simpa [PyData.leavesShort] using h2, by simpa [PyData.bulk, bkD] using h3, by simpa [PyData.depth, dpD] using h4⟩
  | .dK xs, h => by
    obtain ⟨ys, e, h1, h2, h3, h4⟩ := prK_of (ds := xs) (by simpa [lvD] using h)
    exact ⟨.dict ys, by simp [D.pr, e], by simpa [PyData.showable] using h1, by simpa [PyData.leavesShort] using h2, by simpa [PyData.bulk, bkD] using h3, by simpa [PyData.depth, dpD] using h4⟩
  | .dT xs, h => by
    obtain ⟨ys, e, h1, h2, h3, h4⟩ := prT_of (ds := xs) (by simpa [lvD] using h)
    exact ⟨.dict ys, by simp [D.pr, e], by simpa [PyData.showable] using h1, by simpa [PyData.leavesShort] using h2, by simpa [PyData.bulk, bkD] using h3, by simpa [PyData.depth, dpD] using h4⟩
  | .obj _ _, h => by simp [lvD] at h
  | .exc _ _, h => by simp [lvD] at h
  | .fn _ _, h => by simp [lvD] at h
  | .ty _, h => by simp [lvD] at h
  | .cls _, h => by simp [lvD] at h
  | .pen, h => by simp [lvD] at h
  | .scr, h => by simp [lvD] at h
  | .bw _, h => by simp [lvD] at h
  | .rf _, h => by simp [lvD] at h
  | .dN xs, h => by
    obtain ⟨ys, e, h1, h2, h3, h4⟩ := prN_of (ds := xs) (by simpa [lvD] using h)
    exact ⟨.dict ys, by simp [D.pr, e], by simpa [PyData.showable] using h1, by simpa [PyData.leavesShort] using h2, by simpa [PyData.bulk, bkD] using h3, by simpa [PyData.depth, dpD] using h4⟩
theorem prN_of : ∀ {ds : List (D × D)}, lvDn ds = true → ∃ xs, D.prN ds = some xs ∧ PyData.showableKv xs = true ∧ PyData.leavesShortKv 45 xs = true ∧ PyData.bulkKv xs = bkDn ds ∧ PyData.depthKv xs ≤ dpDn ds
  | [], _ => ⟨[], rfl, rfl, rfl, rfl, Nat.le_refl _⟩
  | (k, d) :: ds, h => by
    rw [lvDn, Bool.and_eq_true, Bool.and_eq_true] at h
    obtain ⟨y, e0, k1, k2, k3, k4⟩ := pr_of (d := k) h.1.1
    obtain ⟨x, e1, a1, a2, a3, a4⟩ := pr_of (d := d) h.1.2
    obtain ⟨xs, e2, b1, b2, b3, b4⟩ := prN_of (ds := ds) h.2
    refine ⟨(y, x) :: xs, by simp [D.prN, e0, e1, e2], by simp [PyData.showableKv, a1, b1, k1], by simp [PyData.leavesShortKv, a2, b2, k2], by simp [PyData.bulkKv, bkDn, a3, b3, k3], ?_⟩
    simp only [PyData.depthKv, dpDn]
    omega
theorem prL_of : ∀ {ds : List D}, lvL ds = true → ∃ xs, D.prL ds = some xs ∧ PyData.showableAll xs = true ∧ PyData.leavesShortAll 45 xs = true ∧ PyData.bulkAll xs = bkL ds ∧ PyData.depthAll xs ≤ dpL ds
  | [], _ => ⟨[], rfl, rfl, rfl, rfl, Nat.le_refl _⟩
  | d :: ds, h => by
    rw [lvL, Bool.and_eq_true] at h
    obtain ⟨x, e1, a1, a2, a3, a4⟩ := pr_of (d := d) h.1
    obtain ⟨xs, e2, b1, b2, b3, b4⟩ := prL_of (ds := ds) h.2
    refine ⟨x :: xs, by simp [D.prL, e1, e2], by simp [PyData.showableAll, a1, b1], by simp [PyData.leavesShortAll, a2, b2], by simp [PyData.bulkAll, bkL, a3, b3], ?_⟩
    simp only [PyData.depthAll, dpL]
    omega
theorem prK_of : ∀ {ds : List (Key × D)}, lvK ds = true → ∃ xs, D.prK ds = some xs ∧ PyData.showableKv xs = true ∧ PyData.leavesShortKv 45 xs = true ∧ PyData.bulkKv xs = bkK ds ∧ PyData.depthKv xs ≤ dpK ds
  | [], _ => ⟨[], rfl, rfl, rfl, rfl, Nat.le_refl _⟩
  | (k, d) :: ds, h => by
    rw [lvK, Bool.and_eq_true, Bool.and_eq_true] at h
    obtain ⟨k1, k2, k3, k4⟩ := key_show h.1.1
    obtain ⟨x, e1, a1, a2, a3, a4⟩ := pr_of (d := d) h.1.2
    obtain ⟨xs, e2, b1, b2, b3, b4⟩ := prK_of (ds := ds) h.2
    refine ⟨(kP k, x) :: xs, by simp [D.prK, e1, e2], by simp [PyData.showableKv, a1, b1, k1], by simp [PyData.leavesShortKv, a2, b2, k2], by simp [PyData.bulkKv, bkK, a3, b3, k3], ?_⟩
    simp only [PyData.depthKv, dpK, k4]
    omega
theorem prT_of : ∀ {ds : List (List Key × D)}, lvT ds = true → ∃ xs, D.prT ds = some xs ∧ PyData.showableKv xs = true ∧ PyData.leavesShortKv 45 xs = true ∧ PyData.bulkKv xs = bkT ds ∧ PyData.depthKv xs ≤ dpT ds
  | [], _ => ⟨[], rfl, rfl, rfl, rfl, Nat.le_refl _⟩
  | (k, d) :: ds, h => by
    rw [lvT, Bool.and_eq_true, Bool.and_eq_true] at h
    obtain ⟨k1, k2, k3, k4⟩ := lkeys_show h.1.1
    obtain ⟨x, e1, a1, a2, a3, a4⟩ := pr_of (d := d) h.1.2
    obtain ⟨xs, e2, b1, b2, b3, b4⟩ := prT_of (ds := ds) h.2
    refine ⟨(.tuple (k.map kP), x) :: xs, by simp [D.prT, e1, e2], by simp [PyData.showableKv, PyData.showable, a1, b1, k1], by simp [PyData.leavesShortKv, PyData.leavesShort, a2, b2, k2], by simp [PyData.bulkKv, PyData.bulk, bkT, a3, b3, k3], ?_⟩
    simp only [PyData.depthKv, PyData.depth, dpT, k4]
    omega
end
/-- the text of a tree -/
def shw (d : D) : Str := match d.pr with
  | some x => x.shown
  | none => ""
structure ShD (b p : Nat) (d : D) : Prop where
  lv : lvD d = true
  bk : bkD d ≤ b
  dp : dpD d ≤ p
theorem reprF_ok {b p : Nat} {d : D} (h : ShD b p d) (hb : b ≤ 20000 := by decide) (hp : p ≤ 60 := by decide) : reprF [d] = .ret (.str (shw d)) := by
  obtain ⟨x, e, h1, h2, h3, h4⟩ := pr_of h.lv
  have hl := PyData.shown_le_bulk 45 (by decide) x h2
  have hb2 := h.bk
  have hd := h.dp
  rw [h3] at hl
  show (match d.pr with
    | some x => grd (shwB x = true) (T.ret (D.str x.shown))
    | none => .fail) = _
  rw [show shw d = x.shown by unfold shw; rw [e]]
  rw [e]
  refine grd_pos ?_
  unfold shwB
  have h47 : (45 + 2) * bkD d ≤ 47 * 20000 := Nat.mul_le_mul (by decide) (by omega)
  rw [h1, decide_eq_true (show x.depth ≤ 60 by omega), decide_eq_true (show x.shown.length ≤ 1000000 by omega)]
  rfl
theorem ShD.more {b p b2 p2 : Nat} {d : D} (h : ShD b p d) (h1 : b ≤ b2) (h2 : p ≤ p2) : ShD b2 p2 d := ⟨h.lv, Nat.le_trans h.bk h1, Nat.le_trans h.dp h2⟩
theorem shD_int {i : Int} (h : i.natAbs < 10 ^ 40) : ShD 0 0 (.int i) := ⟨by simpa [lvD] using h, Nat.le_refl _, Nat.le_refl _⟩
theorem shL_of {b p : Nat} : ∀ {xs : List D}, (∀ x ∈ xs, ShD b p x) → lvL xs = true ∧ bkL xs ≤ xs.length * (b + 1) ∧ dpL xs ≤ p
  | [], _ => ⟨rfl, by simp [bkL], Nat.zero_le _⟩
  | x :: xs, h => by
    have h1 := h x (List.mem_cons_self ..)
    obtain ⟨a1, a2, a3⟩ := shL_of (xs := xs) fun y m => h y (List.mem_cons_of_mem _ m)
    have := h1.bk
    have := h1.dp
    refine ⟨by simp [lvL, h1.lv, a1], ?_, ?_⟩
    · rw [bkL, List.length_cons, Nat.succ_mul]; omega
    · rw [dpL]; omega
theorem shD_lst {b p n : Nat} {xs : List D} (hl : xs.length ≤ n) (h : ∀ x ∈ xs, ShD b p x) : ShD (n * (b + 1)) (p + 1) (.lst xs) := by
  obtain ⟨h1, h2, h3⟩ := shL_of h
  refine ⟨by simpa [lvD] using h1, ?_, by simpa [dpD] using h3⟩
  simp only [bkD]
  exact Nat.le_trans h2 (Nat.mul_le_mul_right _ hl)
theorem shD_tup {b p n : Nat} {xs : List D} (hl : xs.length ≤ n) (h : ∀ x ∈ xs, ShD b p x) : ShD (n * (b + 1)) (p + 1) (.tup xs) := by
  obtain ⟨h1, h2, h3⟩ := shL_of h
  refine ⟨by simpa [lvD] using h1, ?_, by simpa [dpD] using h3⟩
  simp only [bkD]
  exact Nat.le_trans h2 (Nat.mul_le_mul_right _ hl)
theorem shI {lo hi : Int} {w : List Int} (h : Within lo hi w) (h1 : (-1000000 : Int) ≤ lo) (h2 : hi ≤ 1000000) : ∀ x ∈ iD w, ShD 0 0 x := fun x hx => by
  obtain ⟨i, hi, rfl⟩ := List.mem_map.mp hx
  have := h i hi
  exact shD_int (by omega)
theorem pdL_iD : ∀ w : List Int, D.pdL (iD w) = some (w.map PyData.int)
  | [] => rfl
  | x :: w => by
    show (match D.pd (.int x), D.pdL (iD w) with
      | some a, some b => some (a :: b)
      | _, _ => none) = _
    rw [pdL_iD w]
    rfl
theorem lay_ints : ∀ w : List Int, PyData.canLayAll0 (w.map PyData.int) = true ∧ PyData.depthAll (w.map PyData.int) = 0
  | [] => ⟨rfl, rfl⟩
  | x :: w => by
    obtain ⟨h1, h2⟩ := lay_ints w
    simp [PyData.canLayAll0, PyData.canLay0, PyData.depthAll, PyData.depth, h1, h2]
theorem shaped_ints (w : List Int) : SeqAt.shaped (.list (w.map PyData.int)) = true := by
  obtain ⟨h1, h2⟩ := lay_ints w
  simp [SeqAt.shaped, PyData.canLay0, PyData.depth, h1, h2]
theorem shaped_intsT (w : List Int) : SeqAt.shaped (.tuple (w.map PyData.int)) = true := by
  obtain ⟨h1, h2⟩ := lay_ints w
  simp [SeqAt.shaped, PyData.canLay0, PyData.depth, h1, h2]
theorem eqv_ints : ∀ w u : List Int, PyData.eqvAll (w.map PyData.int) (u.map PyData.int) = decide (w = u)
  | [], [] => rfl
  | [], _ :: _ => rfl
  | _ :: _, [] => rfl
  | x :: w, y :: u => by
    simp only [List.map_cons, PyData.eqvAll, PyData.eqv, eqv_ints w u, List.cons.injEq]
    by_cases h : x = y <;> by_cases h2 : w = u <;> simp [h, h2]
theorem eqD_ints (w u : List Int) : eqD (.lst (iD w)) (.lst (iD u)) = .ret (.bl (decide (w = u))) := by
  show (match (D.pdL (iD w)).map PyData.list, (D.pdL (iD u)).map PyData.list with
    | some x, some y => grd (SeqAt.shaped x = true ∧ SeqAt.shaped y = true) (T.ret (D.bl (PyData.eqv x y)))
    | _, _ => .fail) = _
  rw [pdL_iD, pdL_iD]
  show grd _ _ = _
  rw [grd_pos ⟨shaped_ints w, shaped_ints u⟩, PyData.eqv, eqv_ints]
@[simp] theorem eqD_nil (w : List Int) : eqD (.lst (iD w)) (.lst []) = .ret (.bl (decide (w = []))) := eqD_ints w []
theorem neD_ints (w u : List Int) : neD (.lst (iD w)) (.lst (iD u)) = .ret (.bl (!decide (w = u))) := by
  show (match (D.pdL (iD w)).map PyData.list, (D.pdL (iD u)).map PyData.list with
    | some x, some y => grd (SeqAt.shaped x = true ∧ SeqAt.shaped y = true) (T.ret (D.bl (!PyData.eqv x y)))
    | _, _ => .fail) = _
  rw [pdL_iD, pdL_iD]
  show grd _ _ = _
  rw [grd_pos ⟨shaped_ints w, shaped_ints u⟩, PyData.eqv, eqv_ints]
@[simp] theorem neD_nil (w : List Int) : neD (.lst (iD w)) (.lst []) = .ret (.bl (!decide (w = []))) := neD_ints w []
theorem eqD_pd {d e : D} {x y : PyData} (h1 : d.pd = some x) (h2 : e.pd = some y) (s1 : SeqAt.shaped x = true) (s2 : SeqAt.shaped y = true) (hs : strQq d e = none := by rfl) : eqD d e = .ret (.bl (PyData.eqv x y)) := by
  unfold eqD
  rw [hs]
  show (match d.pd, e.pd with
    | some x, some y => grd (SeqAt.shaped x = true ∧ SeqAt.shaped y = true) (T.ret (D.bl (PyData.eqv x y)))
    | _, _ => .fail) = _
  rw [h1, h2]
  exact grd_pos ⟨s1, s2⟩
theorem neD_pd {d e : D} {x y : PyData} (h1 : d.pd = some x) (h2 : e.pd = some y) (s1 : SeqAt.shaped x = true) (s2 : SeqAt.shaped y = true) (hs : strQq d e = none := by rfl) : neD d e = .ret (.bl (!PyData.eqv x y)) := by
  unfold neD
  rw [hs]
  show (match d.pd, e.pd with
    | some x, some y => grd (SeqAt.shaped x = true ∧ SeqAt.shaped y = true) (T.ret (D.bl (!PyData.eqv x y)))
    | _, _ => .fail) = _
  rw [h1, h2]
  exact grd_pos ⟨s1, s2⟩
theorem pd_tupI (w : List Int) : (D.tup (iD w)).pd = some (.tuple (w.map .int)) := by
  show (D.pdL (iD w)).map PyData.tuple = _
  rw [pdL_iD]
  rfl
theorem eqD_intsT (w u : List Int) : eqD (.tup (iD w)) (.tup (iD u)) = .ret (.bl (decide (w = u))) := by
  rw [eqD_pd (pd_tupI w) (pd_tupI u) (shaped_intsT w) (shaped_intsT u), PyData.eqv, eqv_ints]
theorem neD_intsT (w u : List Int) : neD (.tup (iD w)) (.tup (iD u)) = .ret (.bl (!decide (w = u))) := by
  rw [neD_pd (pd_tupI w) (pd_tupI u) (shaped_intsT w) (shaped_intsT u), PyData.eqv, eqv_ints]
@[simp] theorem eqD_pair {a b c d : Int} : eqD (.tup [.int a, .int b]) (.tup [.int c, .int d]) = .ret (.bl (decide (a = c ∧ b = d))) := by
  have := eqD_intsT [a, b] [c, d]
  simp only [List.cons.injEq, and_true] at this
  exact this
@[simp] theorem neD_pair {a b c d : Int} : neD (.tup [.int a, .int b]) (.tup [.int c, .int d]) = .ret (.bl (!decide (a = c ∧ b = d))) := by
  have := neD_intsT [a, b] [c, d]
  simp only [List.cons.injEq, and_true] at this
  exact this
end Pu
set_option Elab.async false
set_option linter.all false
set_option maxRecDepth 100000
set_option maxHeartbeats 4000000
namespace Pu
open PySem L2 Stp NdefX LamX
open PyProof.Rows hiding St
theorem Within.tail {lo up x : Int} {w : List Int} (h : Within lo up (x :: w)) : Within lo up w := fun y hy => h y (List.mem_cons_of_mem _ hy)
theorem Within.head {lo up x : Int} {w : List Int} (h : Within lo up (x :: w)) : lo ≤ x ∧ x < up := h x (List.mem_cons_self ..)
theorem Within.app {lo up : Int} {w u : List Int} (h : Within lo up w) (h2 : Within lo up u) : Within lo up (w ++ u) := fun y hy => (List.mem_append.mp hy).elim (h y) (h2 y)
theorem Within.nil {lo up : Int} : Within lo up [] := fun _ m => nomatch m
theorem Within.cons {lo up x : Int} {w : List Int} (h1 : lo ≤ x ∧ x < up) (h : Within lo up w) : Within lo up (x :: w) := fun y hy => (List.mem_cons.mp hy).elim (fun e => e ▸ h1) (h y)
theorem Within.more {lo up lo2 up2 : Int} {w : List Int} (h : Within lo up w) (h1 : lo2 ≤ lo) (h2 : up ≤ up2) : Within lo2 up2 w := fun y hy => by have := h y hy; omega
/-- words of a machine -/
def Words (many : Int) (l : List (List Int)) : Prop := ∀ w ∈ l, w.length ≤ 12 ∧ Within 0 many w
theorem Within.at {lo up x : Int} {w : List Int} {j : Nat} (h : Within lo up w) (e : w[j]? = some x) : lo ≤ x ∧ x < up := h x (List.mem_of_getElem? e)
theorem Words.flat {many : Int} {l : List (List Int)} (h : Words many l) : Within 0 many l.flatten := fun x hx => by
  obtain ⟨w, hw, hx⟩ := List.mem_flatten.mp hx
  exact (h w hw).2 x hx
end Pu
set_option Elab.async false
set_option linter.all false
set_option maxRecDepth 100000
set_option maxHeartbeats 4000000
namespace Pu
open PySem L2 Stp NdefX LamX
open PyProof.Rows hiding St
mutual
def nbD : D → Bool
  | .non => true
  | .int _ => true
  | .str x => PyData.strOk x
  | .tup xs => nbL xs
  | .lst xs => nbL xs
  | _ => false
def nbL : List D → Bool
  | [] => true
  | d :: ds => nbD d && nbL ds
end
mutual
theorem pd_of : ∀ {d : D}, nbD d = true → ∃ x, d.pd = some x ∧ x.canLay0 = true ∧ x.depth ≤ dpD d
  | .non, _ => ⟨_, rfl, rfl, Nat.le_refl _⟩
  | .int i, _ => ⟨_, rfl, rfl, Nat.le_refl _⟩
  | .str x, h => ⟨_, rfl, by simpa [PyData.canLay0, nbD] using h, Nat.le_refl _⟩
  | .tup xs, h => by
    obtain ⟨ys, e, h1, h2⟩ := pdL_of (ds := xs) (by simpa [nbD] using h)
    exact ⟨.tuple ys, by simp [D.pd, e], by simpa [PyData.canLay0] using h1, by simpa [PyData.depth, dpD] using h2⟩
  | .lst xs, h => by
    obtain ⟨ys, e, h1, h2⟩ := pdL_of (ds := xs) (by simpa [nbD] using h)
    exact ⟨.list ys, by simp [D.pd, e], by simpa [PyData.canLay0] using h1, by simpa [PyData.depth, dpD] using h2⟩
  | .bl _, h => by simp [nbD] at h
  | .wt _, h => by simp [nbD] at h
  | .dK _, h => by simp [nbD] at h
  | .dT _, h => by simp [nbD] at h
  | .obj _ _, h => by simp [nbD] at h
  | .exc _ _, h => by simp [nbD] at h
  | .fn _ _, h => by simp [nbD] at h
  | .ty _, h => by simp [nbD] at h
  | .cls _, h => by simp [nbD] at h
  | .pen, h => by simp [nbD] at h
  | .scr, h => by simp [nbD] at h
  | .bw _, h => by simp [nbD] at h
  | .rf _, h => by simp [nbD] at h
  | .dN _, h => by simp [nbD] at h
theorem pdL_of : ∀ {ds : List D}, nbL ds = true → ∃ xs, D.pdL ds = some xs ∧ PyData.canLayAll0 xs = true ∧ PyData.depthAll xs ≤ dpL ds
  | [], _ => ⟨[], rfl, rfl, Nat.le_refl _⟩
  | d :: ds, h => by
    rw [nbL, Bool.and_eq_true] at h
    obtain ⟨x, e1, a1, a2⟩ := pd_of (d := d) h.1
    obtain ⟨xs, e2, b1, b2⟩ := pdL_of (ds := ds) h.2
    refine ⟨x :: xs, by simp [D.pdL, e1, e2], by simp [PyData.canLayAll0, a1, b1], ?_⟩
    simp only [PyData.depthAll, dpL]
    omega
end
mutual
def nbP : PyData → Bool
  | .none => true
  | .int _ => true
  | .str _ => true
  | .tuple xs => nbPL xs
  | .list xs => nbPL xs
  | _ => false
def nbPL : List PyData → Bool
  | [] => true
  | d :: ds => nbP d && nbPL ds
end
mutual
theorem eqvP : ∀ {x y : PyData}, nbP x = true → nbP y = true → (PyData.eqv x y = true ↔ x = y)
  | .none, y, hx, hy => by cases y <;> simp [PyData.eqv, nbP] at *
  | .int i, y, hx, hy => by cases y <;> simp [PyData.eqv, nbP] at *
  | .str i, y, hx, hy => by cases y <;> simp [PyData.eqv, nbP] at *
  | .bool _, _, hx, _ => by simp [nbP] at hx
  | .dict _, _, hx, _ => by simp [nbP] at hx
  | .tuple xs, .tuple ys, hx, hy => by
    rw [PyData.eqv, eqvPL (by simpa [nbP] using hx) (by simpa [nbP] using hy)]
    simp
  | .list xs, .list ys, hx, hy => by
    rw [PyData.eqv, eqvPL (by simpa [nbP] using hx) (by simpa [nbP] using hy)]
    simp
  | .tuple xs, .none, hx, hy => by simp [PyData.eqv]
  | .tuple xs, .int _, hx, hy => by simp [PyData.eqv]
  | .tuple xs, .str _, hx, hy => by simp [PyData.eqv]
  | .tuple xs, .bool _, hx, hy => by simp [PyData.eqv]
  | .tuple xs, .list _, hx, hy => by simp [PyData.eqv]
  | .tuple xs, .dict _, hx, hy => by simp [PyData.eqv]
  | .list xs, .none, hx, hy => by simp [PyData.eqv]
  | .list xs, .int _, hx, hy => by simp [PyData.eqv]
  | .list xs, .str _, hx, hy => by simp [PyData.eqv]
  | .list xs, .bool _, hx, hy => by simp [PyData.eqv]
  | .list xs, .tuple _, hx, hy => by simp [PyData.eqv]
  | .list xs, .dict _, hx, hy => by simp [PyData.eqv]
theorem eqvPL : ∀ {xs ys : List PyData}, nbPL xs = true → nbPL ys = true → (PyData.eqvAll xs ys = true ↔ xs = ys)
  | [], [], _, _ => by simp [PyData.eqvAll]
  | [], _ :: _, _, _ => by simp [PyData.eqvAll]
  | _ :: _, [], _, _ => by simp [PyData.eqvAll]
  | x :: xs, y :: ys, hx, hy => by
    rw [nbPL, Bool.and_eq_true] at hx hy
    rw [PyData.eqvAll, Bool.and_eq_true, eqvP hx.1 hy.1, eqvPL hx.2 hy.2]
    simp
end
mutual
theorem pd_nbP : ∀ {d : D} {x : PyData}, nbD d = true → d.pd = some x → nbP x = true
  | .non, _, _, e => by cases e; rfl
  | .int _, _, _, e => by cases e; rfl
  | .str _, _, _, e => by cases e; rfl
  | .tup xs, _, h, e => by
    obtain ⟨ys, e1, rfl⟩ := Option.map_eq_some_iff.mp (show (D.pdL xs).map PyData.tuple = _ from e)
    simpa [nbP] using pdL_nbP (by simpa [nbD] using h) e1
  | .lst xs, _, h, e => by
    obtain ⟨ys, e1, rfl⟩ := Option.map_eq_some_iff.mp (show (D.pdL xs).map PyData.list = _ from e)
    simpa [nbP] using pdL_nbP (by simpa [nbD] using h) e1
  | .bl _, _, h, _ => by simp [nbD] at h
  | .wt _, _, h, _ => by simp [nbD] at h
  | .dK _, _, h, _ => by simp [nbD] at h
  | .dT _, _, h, _ => by simp [nbD] at h
  | .obj _ _, _, h, _ => by simp [nbD] at h
  | .exc _ _, _, h, _ => by simp [nbD] at h
  | .fn _ _, _, h, _ => by simp [nbD] at h
  | .ty _, _, h, _ => by simp [nbD] at h
  | .cls _, _, h, _ => by simp [nbD] at h
  | .pen, _, h, _ => by simp [nbD] at h
  | .scr, _, h, _ => by simp [nbD] at h
  | .bw _, _, h, _ => by simp [nbD] at h
  | .rf _, _, h, _ => by simp [nbD] at h
  | .dN _, _, h, _ => by simp [nbD] at h
theorem pdL_nbP : ∀ {ds : List D} {xs : List PyData}, nbL ds = true → D.pdL ds = some xs → nbPL xs = true
  | [], _, _, e => by cases e; rfl
  | d :: ds, _, h, e => by
    obtain ⟨a, b, h1, h2, rfl⟩ := pr_cons (show (match d.pd, D.pdL ds with | some a, some b => some (a :: b) | _, _ => none) = some _ from e)
    rw [nbL, Bool.and_eq_true] at h
    rw [nbPL, pd_nbP h.1 h1, pdL_nbP h.2 h2]; rfl
end
mutual
/-- the tree of data without bools -/
def unP : PyData → D
  | .int i => .int i
  | .str x => .str x
  | .tuple xs => .tup (unPL xs)
  | .list xs => .lst (unPL xs)
  | _ => .non
def unPL : List PyData → List D
  | [] => []
  | x :: xs => unP x :: unPL xs
end
mutual
theorem unP_pd : ∀ {d : D} {x : PyData}, nbD d = true → d.pd = some x → unP x = d
  | .non, _, _, e => by cases e; rfl
  | .int _, _, _, e => by cases e; rfl
  | .str _, _, _, e => by cases e; rfl
  | .tup xs, _, h, e => by
    obtain ⟨ys, e1, rfl⟩ := Option.map_eq_some_iff.mp (show (D.pdL xs).map PyData.tuple = _ from e)
    rw [unP, unPL_pd (by simpa [nbD] using h) e1]
  | .lst xs, _, h, e => by
    obtain ⟨ys, e1, rfl⟩ := Option.map_eq_some_iff.mp (show (D.pdL xs).map PyData.list = _ from e)
    rw [unP, unPL_pd (by simpa [nbD] using h) e1]
  | .bl _, _, h, _ => by simp [nbD] at h
  | .wt _, _, h, _ => by simp [nbD] at h
  | .dK _, _, h, _ => by simp [nbD] at h
  | .dT _, _, h, _ => by simp [nbD] at h
  | .obj _ _, _, h, _ => by simp [nbD] at h
  | .exc _ _, _, h, _ => by simp [nbD] at h
  | .fn _ _, _, h, _ => by simp [nbD] at h
  | .ty _, _, h, _ => by simp [nbD] at h
  | .cls _, _, h, _ => by simp [nbD] at h
  | .pen, _, h, _ => by simp [nbD] at h
  | .scr, _, h, _ => by simp [nbD] at h
  | .bw _, _, h, _ => by simp [nbD] at h
  | .rf _, _, h, _ => by simp [nbD] at h
  | .dN _, _, h, _ => by simp [nbD] at h
theorem unPL_pd : ∀ {ds : List D} {xs : List PyData}, nbL ds = true → D.pdL ds = some xs → unPL xs = ds
  | [], _, _, e => by cases e; rfl
  | d :: ds, _, h, e => by
    obtain ⟨a, b, h1, h2, rfl⟩ := pr_cons (show (match d.pd, D.pdL ds with | some a, some b => some (a :: b) | _, _ => none) = some _ from e)
    rw [nbL, Bool.and_eq_true] at h
    rw [unPL, unP_pd h.1 h1, unPL_pd h.2 h2]
end
theorem eqv_nb {d e : D} {x y : PyData} (hd : nbD d = true) (he : nbD e = true) (hx : d.pd = some x) (hy : e.pd = some y) : PyData.eqv x y = true ↔ d = e := by
  rw [eqvP (pd_nbP hd hx) (pd_nbP he hy)]
  constructor
  · intro h
    rw [← unP_pd hd hx, ← unP_pd he hy, h]
  · rintro rfl
    rw [hx] at hy
    exact Option.some.inj hy
/-- two trees without bools compared -/
theorem eqD_nb {d e : D} (hd : nbD d = true) (he : nbD e = true) (h1 : dpD d ≤ 64) (h2 : dpD e ≤ 64) : ∃ b, eqD d e = .ret (.bl b) ∧ neD d e = .ret (.bl (!b)) ∧ (b = true ↔ d = e) := by
  obtain ⟨x, ex, lx, px⟩ := pd_of hd
  obtain ⟨y, ey, ly, py⟩ := pd_of he
  cases q : strQq d e with
  | some b =>
    obtain ⟨a, c, rfl, rfl, rfl⟩ := strq_some q
    refine ⟨decide (a = c), by simp, by simp, by simp⟩
  | none =>
    have sx : SeqAt.shaped x = true := by
      unfold SeqAt.shaped
      rw [lx, decide_eq_true (show x.depth ≤ 64 by omega)]; rfl
    have sy : SeqAt.shaped y = true := by
      unfold SeqAt.shaped
      rw [ly, decide_eq_true (show y.depth ≤ 64 by omega)]; rfl
    exact ⟨PyData.eqv x y, eqD_pd ex ey sx sy q, neD_pd ex ey sx sy q, eqv_nb hd he ex ey⟩
theorem eqD_same {d : D} (hd : nbD d = true) (h1 : dpD d ≤ 64) : eqD d d = .ret (.bl true) := by
  obtain ⟨b, e, _, h⟩ := eqD_nb hd hd h1 h1
  rw [e, h.mpr rfl]
theorem eqD_diff {d e : D} (hd : nbD d = true) (he : nbD e = true) (h1 : dpD d ≤ 64) (h2 : dpD e ≤ 64) (hn : d ≠ e) : eqD d e = .ret (.bl false) ∧ neD d e = .ret (.bl true) := by
  obtain ⟨b, e1, e2, h⟩ := eqD_nb hd he h1 h2
  have hb : b = false := Bool.eq_false_iff.mpr fun z => hn (h.mp z)
  rw [e1, e2, hb]
  exact ⟨rfl, rfl⟩
theorem nbL_iff {ds : List D} : nbL ds = true ↔ ∀ d ∈ ds, nbD d = true := by
  induction ds with
  | nil => simp [nbL]
  | cons d ds ih => rw [nbL, Bool.and_eq_true, ih]; simp
theorem dpL_le {p : Nat} {ds : List D} (h : ∀ d ∈ ds, dpD d ≤ p) : dpL ds ≤ p := by
  induction ds with
  | nil => exact Nat.zero_le _
  | cons d ds ih =>
    rw [dpL]
    have h1 := h d (List.mem_cons_self ..)
    have h2 := ih fun x hx => h x (List.mem_cons_of_mem _ hx)
    omega
/-- no bools, at most p deep -/
structure NbD (p : Nat) (d : D) : Prop where
  nb : nbD d = true
  dp : dpD d ≤ p
theorem nb_int (i : Int) : NbD 0 (.int i) := ⟨rfl, Nat.le_refl _⟩
theorem NbD.more {p q : Nat} {d : D} (h : NbD p d) (hq : p ≤ q) : NbD q d := ⟨h.nb, Nat.le_trans h.dp hq⟩
theorem nb_tup {p : Nat} {ds : List D} (h : ∀ d ∈ ds, NbD p d) : NbD (p + 1) (.tup ds) := ⟨by simpa [nbD] using nbL_iff.mpr fun d m => (h d m).nb, by have := dpL_le fun d m => (h d m).dp; simp only [dpD]; omega⟩
theorem nb_lst {p : Nat} {ds : List D} (h : ∀ d ∈ ds, NbD p d) : NbD (p + 1) (.lst ds) := ⟨by simpa [nbD] using nbL_iff.mpr fun d m => (h d m).nb, by have := dpL_le fun d m => (h d m).dp; simp only [dpD]; omega⟩
theorem nb_iD (w : List Int) : ∀ d ∈ iD w, NbD 0 d := fun d hd => by
  obtain ⟨i, _, rfl⟩ := List.mem_map.mp hd
  exact nb_int i
theorem nb_mvD (v : Mv) : NbD 2 (mvD v) := nb_tup fun d hd => by
  simp only [List.mem_cons, List.not_mem_nil, or_false] at hd
  rcases hd with rfl | rfl
  · exact nb_tup (nb_iD _)
  · exact (nb_int _).more (by decide)
theorem nb_tabD (t : List (List Mv)) : NbD 4 (tabD t) := nb_lst fun d hd => by
  obtain ⟨r, _, rfl⟩ := List.mem_map.mp hd
  exact nb_lst fun d hd => by
    obtain ⟨v, _, rfl⟩ := List.mem_map.mp hd
    exact nb_mvD v
theorem oeD_obj {neg : Bool} {L : EqL} {tys : List KT} {c : Nat} {fs : List (Str × D)} {e : D} {mf : List D → T D} {t : KT} {b : Bool} (h1 : L.look c = some mf) (h2 : kt e = some t) (h3 : t ∈ tys) (h : mf [.obj c fs, e] = .ret (.bl b)) : oeD neg L tys c fs e = .ret (.bl (if neg then !b else b)) := by
  unfold oeD
  rw [h1, h2]
  dsimp only
  rw [if_pos h3, h, T.noX_ret, T.bind_ret, boolT_bl]
theorem neU_objD {L : EqL} {tys : List KT} {c : Nat} {m : Mch} {e : D} {mf : List D → T D} {t : KT} {b : Bool} (h1 : L.look c = some mf) (h2 : kt e = some t) (h3 : t ∈ tys) (h : mf [objD c m, e] = .ret (.bl b)) : neU L tys (objD c m) e = .ret (.bl (!b)) := oeD_obj (neg := true) h1 h2 h3 h
end Pu
set_option Elab.async false
set_option linter.all false
set_option maxRecDepth 100000
set_option maxHeartbeats 4000000
namespace Pu
open PySem L2 Stp NdefX LamX
open PyProof.Rows hiding St
end Pu
set_option Elab.async false
set_option linter.all false
set_option maxRecDepth 100000
set_option maxHeartbeats 4000000
namespace Pu
open PySem L2 Stp NdefX LamX
open PyProof.Rows hiding St
end Pu
set_option Elab.async false
set_option linter.all false
set_option maxRecDepth 100000
set_option maxHeartbeats 4000000
namespace Pu
open PySem L2 Stp NdefX LamX
open PyProof.Rows hiding St
section
variable {t : Env → T Bool} {m : Env → T Fl}
end
section
variable {α : Type} [BEq α] [LawfulBEq α] {f : α → D}
end
abbrev P2 := Int × Int
def addS (st : List P2) (q : P2) : List P2 := if q ∈ st then st else st ++ [q]
theorem mem_addS {st : List P2} {q x : P2} : x ∈ addS st q ↔ x ∈ st ∨ x = q := by
  unfold addS
  split
  · rename_i h
    exact ⟨.inl, fun z => z.elim id fun e => e ▸ h⟩
  · simp
theorem addS_nodup {st : List P2} {q : P2} (h : st.Nodup) : (addS st q).Nodup := by
  unfold addS
  split
  · exact h
  · rename_i hq
    exact List.nodup_append.mpr ⟨h, by simp, fun a ha b hb => by
      rw [List.mem_singleton.mp hb]
      exact fun e => hq (e ▸ ha)⟩
/-- the row of a state: what its moves tell, and the numbers of the states behind them -/
def rowF (step : Int → List Int × P2) : List Int → List P2 → List Mv × List P2
  | [], st => ([], st)
  | p :: ps, st => (((step p).1, ((addS st (step p).2).idxOf (step p).2 : Nat)) :: (rowF step ps (addS st (step p).2)).1, (rowF step ps (addS st (step p).2)).2)
def metF (step : P2 → Int → List Int × P2) (ps : List Int) : Nat → List (List Mv) → List P2 → List (List Mv)
  | 0, rows, _ => rows
  | f + 1, rows, st => if rows.length < st.length then
      metF step ps f (rows ++ [(rowF (step (st.getD rows.length (0, 0))) ps st).1]) (rowF (step (st.getD rows.length (0, 0))) ps st).2
    else rows
/-- the states stay in a set, each once; the numbers name them -/
structure MetOk (S : P2 → Prop) (st : List P2) : Prop where
  nd : st.Nodup
  mem : ∀ x ∈ st, S x
theorem MetOk.add {S : P2 → Prop} {st : List P2} {q : P2} (h : MetOk S st) (hq : S q) : MetOk S (addS st q) :=
  ⟨addS_nodup h.nd, fun x hx => (mem_addS.mp hx).elim (h.mem x) fun e => e ▸ hq⟩
theorem addS_len {st : List P2} {q : P2} : st.length ≤ (addS st q).length := by
  unfold addS
  split
  · exact Nat.le_refl _
  · simp
theorem rowF_ok {S : P2 → Prop} {step : Int → List Int × P2} : ∀ {ps : List Int} {st : List P2}, MetOk S st → (∀ p ∈ ps, S (step p).2) → MetOk S (rowF step ps st).2 ∧ st.length ≤ (rowF step ps st).2.length
  | [], st, h, _ => ⟨h, Nat.le_refl _⟩
  | p :: ps, st, h, hs => by
    have h1 := h.add (hs p (List.mem_cons_self ..))
    obtain ⟨g1, g2⟩ := rowF_ok (ps := ps) h1 fun q hq => hs q (List.mem_cons_of_mem _ hq)
    exact ⟨g1, Nat.le_trans addS_len g2⟩
theorem nodup_lt : ∀ {n : Nat} {l : List Nat}, l.Nodup → (∀ x ∈ l, x < n) → l.length ≤ n
  | 0, l, _, h => by
    cases l with
    | nil => exact Nat.le_refl _
    | cons x l => exact absurd (h x (List.mem_cons_self ..)) (Nat.not_lt_zero _)
  | n + 1, l, hn, h => by
    have h1 := nodup_lt (n := n) (hn.erase n) fun x hx => by
      obtain ⟨g1, g2⟩ := hn.mem_erase_iff.mp hx
      have := h x g2
      omega
    have h2 := List.length_erase (l := l) (a := n)
    split at h2 <;> omega
/-- pairs of states of two machines: at most so many -/
def Box (a b : Nat) (x : P2) : Prop := 0 ≤ x.1 ∧ x.1 < a ∧ 0 ≤ x.2 ∧ x.2 < b
theorem box_len {a b : Nat} {st : List P2} (h : MetOk (Box a b) st) : st.length ≤ a * b := by
  have h1 : (st.map fun x : P2 => x.1.toNat * b + x.2.toNat).Nodup := by
    refine List.pairwise_map.mpr (List.Pairwise.imp_of_mem (fun {x y} hx hy ne e => ne ?_) h.nd)
    obtain ⟨x1, x2, x3, x4⟩ := h.mem x hx
    obtain ⟨y1, y2, y3, y4⟩ := h.mem y hy
    have hb : 0 < b := by omega
    have e1 : (x.1.toNat * b + x.2.toNat) / b = (y.1.toNat * b + y.2.toNat) / b := by rw [e]
    have e2 : (x.1.toNat * b + x.2.toNat) % b = (y.1.toNat * b + y.2.toNat) % b := by rw [e]
    rw [Nat.mul_comm _ b, Nat.mul_comm _ b, Nat.mul_add_div hb, Nat.mul_add_div hb, Nat.div_eq_of_lt (by omega), Nat.div_eq_of_lt (by omega)] at e1
    rw [Nat.mul_comm _ b, Nat.mul_comm _ b, Nat.mul_add_mod, Nat.mul_add_mod, Nat.mod_eq_of_lt (by omega), Nat.mod_eq_of_lt (by omega)] at e2
    exact Prod.ext (by omega) (by omega)
  have h3 := nodup_lt (n := a * b) h1 fun n hn => by
    obtain ⟨x, hx, rfl⟩ := List.mem_map.mp hn
    obtain ⟨x1, x2, x3, x4⟩ := h.mem x hx
    have := Nat.mul_le_mul_right b (show x.1.toNat + 1 ≤ a by omega)
    rw [Nat.succ_mul] at this
    omega
  rw [List.length_map] at h3
  exact h3
end Pu
set_option Elab.async false
set_option linter.all false
set_option maxRecDepth 100000
set_option maxHeartbeats 4000000
namespace Pu
open PySem L2 Stp NdefX LamX
open PyProof.Rows hiding St
theorem metF_done {step : P2 → Int → List Int × P2} {ps : List Int} {f : Nat} {rows : List (List Mv)} {st : List P2} (h : st.length ≤ rows.length) : metF step ps f rows st = rows := by
  cases f with
  | zero => rfl
  | succ f => rw [metF, if_neg (by omega)]
/-- a loop that meets states: rows so far, states so far -/
structure MetI (S : P2 → Prop) (step : P2 → Int → List Int × P2) (ps : List Int) (N : Nat) (R : List (List Mv)) (n : Nat) (rows : List (List Mv)) (st : List P2) : Prop where
  ok : MetOk S st
  sum : rows.length + n = N
  le : rows.length ≤ st.length
  res : metF step ps n rows st = R
theorem MetI.start {S : P2 → Prop} {step : P2 → Int → List Int × P2} {ps : List Int} {N : Nat} {x : P2} (h : S x) : MetI S step ps N (metF step ps N [] [x]) N [] [x] :=
  ⟨⟨by simp, fun y hy => by rw [List.mem_singleton.mp hy]; exact h⟩, by simp, by simp, rfl⟩
theorem MetI.state {S : P2 → Prop} {step : P2 → Int → List Int × P2} {ps : List Int} {N n : Nat} {R rows : List (List Mv)} {st : List P2} (h : MetI S step ps N R n rows st) (hl : rows.length < st.length) : S (st.getD rows.length (0, 0)) := by
  refine h.ok.mem _ ?_
  rw [List.getD_eq_getElem?_getD, List.getElem?_eq_getElem hl]
  exact List.getElem_mem ..
theorem MetI.next {S : P2 → Prop} {step : P2 → Int → List Int × P2} {ps : List Int} {N n : Nat} {R rows : List (List Mv)} {st : List P2} (h : MetI S step ps N R n rows st) (hl : rows.length < st.length) (hN : ∀ st, MetOk S st → st.length ≤ N) (hs : ∀ x, S x → ∀ p ∈ ps, S (step x p).2) :
    0 < n ∧ MetI S step ps N R (n - 1) (rows ++ [(rowF (step (st.getD rows.length (0, 0))) ps st).1]) (rowF (step (st.getD rows.length (0, 0))) ps st).2 := by
  have h1 := hN st h.ok
  have h2 := h.sum
  obtain ⟨g1, g2⟩ := rowF_ok (ps := ps) (step := step (st.getD rows.length (0, 0))) h.ok (hs _ (h.state hl))
  refine ⟨by omega, g1, by rw [List.length_append, List.length_singleton]; omega, by rw [List.length_append, List.length_singleton]; omega, ?_⟩
  have h3 := h.res
  obtain ⟨k, rfl⟩ : ∃ k, n = k + 1 := ⟨n - 1, by omega⟩
  rw [metF, if_pos hl] at h3
  exact h3
theorem MetI.done {S : P2 → Prop} {step : P2 → Int → List Int × P2} {ps : List Int} {N n : Nat} {R rows : List (List Mv)} {st : List P2} (h : MetI S step ps N R n rows st) (hl : ¬ rows.length < st.length) : rows = R := by
  have h3 := h.res
  rw [metF_done (by omega)] at h3
  exact h3
/-- the input at a place -/
def inF (k p : Int) : Int := if p = k then -1 else p
theorem sh_mvM {v : Mv} {lo up n : Int} (h1 : v.1.length ≤ 12) (h2 : Within lo up v.1) (h3 : 0 ≤ v.2) (h4 : v.2 < n) (l1 : -100 ≤ lo) (l2 : up ≤ 100) (l3 : n ≤ 100) : ShD 26 2 (mvD v) :=
  (shD_tup (n := 2) (b := 12) (p := 1) (by simp) fun x hx => by
    simp only [List.mem_cons, List.not_mem_nil, or_false] at hx
    rcases hx with rfl | rfl
    · exact (shD_tup (n := 12) (by rw [iD_length]; exact h1) (shI h2 (by omega) (by omega))).more (by decide) (by decide)
    · exact (shD_int (by omega)).more (by decide) (by decide)).more (by decide) (by decide)
theorem sh_tabM {t : List (List Mv)} {moves lo up : Int} {ln most : Nat} (h : TabOk t moves lo up ln most) (hm : moves ≤ 7) (hl : t.length ≤ 40) (h1 : ln ≤ 12) (l1 : -100 ≤ lo) (l2 : up ≤ 100) : ShD 7600 4 (tabD t) :=
  (shD_lst (n := 40) (b := 189) (p := 3) (by simpa using hl) fun x hx => by
    obtain ⟨r, hr, rfl⟩ := List.mem_map.mp hx
    have hrl := h.row r hr
    exact (shD_lst (n := 7) (b := 26) (p := 2) (by simp; omega) fun x hx => by
      obtain ⟨v, hv, rfl⟩ := List.mem_map.mp hx
      obtain ⟨a1, a2, a3, a4⟩ := h.mv r hr v hv
      exact sh_mvM (by omega) a2 a3 a4 l1 l2 (by omega)).more (by decide) (by decide)).more (by decide) (by decide)
/-- an upper pair for a lower one of k data -/
structure UppOk (k : Int) (u v : Mch) : Prop where
  w : WOk u
  r : ROk v
  um : u.many = k + 2
  vm : v.many = k + 2
  no : ∀ r ∈ u.rows, ∀ x ∈ r, k + 1 ∉ x.1
theorem compL_g {α : Type} {g f : α → D} {pt : Pt} {env : Env} {tt : Env → T Bool} {me : Env → T D} : ∀ {l : List α}, (∀ x ∈ l, ∃ env', putP pt (g x) env = some env' ∧ tt env' = .ret true ∧ me env' = .ret (f x)) → compL pt env tt me (l.map g) = .ret (l.map f)
  | [], _ => rfl
  | x :: l, h => by
    obtain ⟨env', e1, e2, e3⟩ := h x (List.mem_cons_self ..)
    rw [List.map_cons]
    unfold compL
    rw [e1]
    dsimp only
    rw [e2, e3, T.noX_ret, T.bind_ret, if_pos rfl, T.noX_ret, T.bind_ret, compL_g fun y hy => h y (List.mem_cons_of_mem _ hy)]
    rfl
end Pu
set_option Elab.async false
set_option linter.all false
set_option maxRecDepth 100000
set_option maxHeartbeats 4000000
namespace Pu
open PySem L2 Stp NdefX LamX
open PyProof.Rows hiding St
@[simp] theorem popS_def {i : Nat} {mi : Env → T D} {pt : Pt} {env : Env} : popS i mi pt env = ownL i env fun xs => exS mi (fun d env => match d with
  | .int k => (match ixN xs.length k with
    | some j => (match xs[j]? with
      | some y => (match putP pt y (env.set i (some (.ls (xs.eraseIdx j)))) with
        | some env' => grd (xs.length ≤ big) (.ret (.nx env'))
        | none => .fail)
      | none => .fail)
    | none => .fail)
  | _ => .fail) env := (rfl)
@[simp] theorem aStarR_def {m : Env → T D} {k : Env → T (List D)} {env : Env} : aStarR m k env = (m env).bind fun d => match d with
  | .int n => grd (0 ≤ n ∧ n ≤ 1000000) ((k env).bind fun ys => .ret (rgD 0 n ++ ys))
  | _ => .fail := (rfl)
@[simp] theorem oDisp1T_def {mk mv : Env → T D} {env : Env} : oDisp1T mk mv env = (mk env).bind fun k => (mv env).bind fun d => match k with
  | .tup ks => (match keysD ks with
    | some kk => .ret (.dt [(kk, d)])
    | none => .fail)
  | _ => .fail := (rfl)
@[simp] theorem itO_dt {kvs : List (List Key × D)} {ks : List D} : itO (.dt kvs) (.tup ks) = match keysD ks with
  | some k => ofO (valD kvs k)
  | none => .fail := (rfl)
@[simp] theorem spoilS_def {s r : Nat} {kk : Option Nat} {f : List D → List D} {env : Env} : spoilS s r kk f env = match env[s]? with
  | some (some o) => (match o.rows kk with
    | some xss => if env.length ≤ r ∨ s = r then .fail else .ret (.nx ((env.set s (some (o.setRows (xss.map f)))).set r none))
    | none => .fail)
  | _ => .fail := (rfl)
@[simp] theorem rowAppS_def {s : Nat} {kk : Option Nat} {mo : Env → T O} {env : Env} : rowAppS s kk mo env = match env[s]? with
  | some (some o) => (match o.rows kk with
    | some xss => exS mo (fun o2 env => match o2 with
      | .ls ys => grd (xss.length ≤ big) (.ret (.nx (env.set s (some (o.setRows (xss ++ [ys]))))))
      | _ => .fail) env
    | none => .fail)
  | _ => .fail := (rfl)
@[simp] theorem oGl4_def {m0 m1 : Env → T D} {mo : Env → T O} {m3 : Env → T D} {env : Env} : oGl4 m0 m1 mo m3 env = (m0 env).bind fun d0 => (m1 env).bind fun d1 => (mo env).bind fun o => (m3 env).bind fun d3 => match o with
  | .ll xss => .ret (.gl 2 [d0, d1, .non, d3] xss)
  | _ => .fail := (rfl)
@[simp] theorem rows_ll (xss : List (List D)) : (O.ll xss).rows none = some xss := (rfl)
@[simp] theorem rows_gl2 (ds : List D) (xss : List (List D)) : (O.gl 2 ds xss).rows (some 2) = some xss := (rfl)
@[simp] theorem setRows_ll (xss yss : List (List D)) : (O.ll xss).setRows yss = .ll yss := (rfl)
@[simp] theorem setRows_gl (k : Nat) (ds : List D) (xss yss : List (List D)) : (O.gl k ds xss).setRows yss = .gl k ds yss := (rfl)
@[simp] theorem toD_gl (k : Nat) (ds : List D) (xss : List (List D)) : (O.gl k ds xss).toD = .lst (ds.set k (.lst (xss.map .lst))) := (rfl)
@[simp] theorem toD_dt (kvs : List (List Key × D)) : (O.dt kvs).toD = .dT kvs := (rfl)
@[simp] theorem toD_dk (kvs : List (Key × D)) : (O.dk kvs).toD = .dK kvs := (rfl)
@[simp] theorem keysD_pair (a b : Int) : keysD [.int a, .int b] = some [.inl a, .inl b] := rfl
end Pu
set_option Elab.async false
set_option linter.all false
set_option maxRecDepth 100000
set_option maxHeartbeats 4000000
namespace Pu
open PySem L2 Stp NdefX LamX
open PyProof.Rows hiding St
@[simp] theorem lvL_nil : lvL [] = true := rfl
@[simp] theorem bkL_nil : bkL [] = 0 := rfl
@[simp] theorem dpL_nil : dpL [] = 0 := rfl
@[simp] theorem lvL_cons {d : D} {ds : List D} : lvL (d :: ds) = (lvD d && lvL ds) := by rw [lvL]
@[simp] theorem bkL_cons {d : D} {ds : List D} : bkL (d :: ds) = bkD d + 1 + bkL ds := by rw [bkL]
@[simp] theorem dpL_cons {d : D} {ds : List D} : dpL (d :: ds) = max (dpD d) (dpL ds) := by rw [dpL]
@[simp] theorem lvL_app {a c : List D} : lvL (a ++ c) = (lvL a && lvL c) := by
  induction a with
  | nil => rfl
  | cons d a ih => rw [List.cons_append, lvL_cons, lvL_cons, ih, Bool.and_assoc]
@[simp] theorem bkL_app {a c : List D} : bkL (a ++ c) = bkL a + bkL c := by
  induction a with
  | nil => simp
  | cons d a ih => rw [List.cons_append, bkL_cons, bkL_cons, ih]; omega
@[simp] theorem dpL_app {a c : List D} : dpL (a ++ c) = max (dpL a) (dpL c) := by
  induction a with
  | nil => simp
  | cons d a ih => rw [List.cons_append, dpL_cons, dpL_cons, ih]; omega
@[simp] theorem lvD_tup {ds : List D} : lvD (.tup ds) = lvL ds := by rw [lvD]
@[simp] theorem lvD_wt {ds : List D} : lvD (.wt ds) = lvL ds := by rw [lvD]
@[simp] theorem lvD_lst {ds : List D} : lvD (.lst ds) = lvL ds := by rw [lvD]
@[simp] theorem bkD_tup {ds : List D} : bkD (.tup ds) = bkL ds := by rw [bkD]
@[simp] theorem bkD_wt {ds : List D} : bkD (.wt ds) = bkL ds := by rw [bkD]
@[simp] theorem bkD_lst {ds : List D} : bkD (.lst ds) = bkL ds := by rw [bkD]
@[simp] theorem dpD_tup {ds : List D} : dpD (.tup ds) = dpL ds + 1 := by rw [dpD]
@[simp] theorem dpD_wt {ds : List D} : dpD (.wt ds) = dpL ds + 1 := by rw [dpD]
@[simp] theorem dpD_lst {ds : List D} : dpD (.lst ds) = dpL ds + 1 := by rw [dpD]
/-- plain data of a size -/
structure Gd (b p : Nat) (d : D) : Prop where
  ok : okD d = true
  sh : ShD b p d
theorem Gd.more {b p b2 p2 : Nat} {d : D} (h : Gd b p d) (h1 : b ≤ b2 := by decide) (h2 : p ≤ p2 := by decide) : Gd b2 p2 d := ⟨h.ok, h.sh.more h1 h2⟩
def gdB (b p : Nat) (d : D) : Bool := okD d && lvD d && decide (bkD d ≤ b) && decide (dpD d ≤ p)
theorem Gd.by {b p : Nat} {d : D} (h : Gd b p d) : gdB b p d = true := by
  simp only [gdB, h.ok, h.sh.lv, h.sh.bk, h.sh.dp, decide_true, Bool.and_self]
end Pu
set_option Elab.async false
set_option linter.all false
set_option maxRecDepth 100000
set_option maxHeartbeats 4000000
namespace Pu
open PySem L2 Stp NdefX LamX
open PyProof.Rows hiding St
theorem strIF_ok {i : Int} (h : i.natAbs < 10 ^ 18) : strIF [.int i] = .ret (.str (Str.ofString (toString i))) := by
  show grd (i.natAbs.log2 < 1920) (T.ret (D.str (Str.ofString (toString i)))) = _
  refine grd_pos ?_
  by_cases h0 : i.natAbs = 0
  · rw [h0]; decide
  · exact Nat.lt_of_lt_of_le ((Nat.log2_lt h0).mpr (Nat.lt_trans h (by decide : 10 ^ 18 < 2 ^ 60))) (by decide)
end Pu
set_option Elab.async false
set_option linter.all false
set_option maxRecDepth 100000
set_option maxHeartbeats 4000000
namespace Pu
open PySem L2 Stp NdefX LamX
open PyProof.Rows hiding St
/-- two states, what is not told yet, what is told beyond the inputs -/
structure Nd where
  p : Int
  q : Int
  late : List Int
  early : List Int
  deriving DecidableEq
def cmpE : List Int → List Int → List Int → Option (List Int × List Int)
  | l, e, [] => some (l, e)
  | x :: l, e, v :: vs => if x = v then cmpE l e vs else none
  | [], e, v :: vs => if v = -2 then none else cmpE [] (e ++ [v]) vs
theorem cmpE_nil : ∀ {vs e : List Int} {r : List Int × List Int}, cmpE [] e vs = some r → r = ([], e ++ vs)
  | [], e, r, h => by simp [cmpE] at h; simp [← h]
  | v :: vs, e, r, h => by
    unfold cmpE at h
    split at h
    · cases h
    · rw [cmpE_nil h]; simp
theorem cmpE_some : ∀ {l e vs : List Int} {r : List Int × List Int}, cmpE l e vs = some r → (r.2 = e ∧ l = vs ++ r.1) ∨ (r.1 = [] ∧ ∃ t, vs = l ++ t ∧ r.2 = e ++ t)
  | l, e, [], r, h => by simp [cmpE] at h; subst h; exact .inl ⟨rfl, rfl⟩
  | [], e, v :: vs, r, h => by
    have := cmpE_nil h
    subst this
    exact .inr ⟨rfl, v :: vs, rfl, rfl⟩
  | x :: l, e, v :: vs, r, h => by
    unfold cmpE at h
    split at h
    · rename_i hx
      subst hx
      rcases cmpE_some h with ⟨h1, h2⟩ | ⟨h1, t, h2, h3⟩
      · exact .inl ⟨h1, by rw [h2]; rfl⟩
      · exact .inr ⟨h1, t, by rw [h2]; rfl, h3⟩
    · cases h
theorem cmpE_len {l e vs : List Int} {r : List Int × List Int} (h : cmpE l e vs = some r) : r.1.length ≤ l.length ∧ r.2.length ≤ e.length + vs.length := by
  rcases cmpE_some h with ⟨h1, h2⟩ | ⟨h1, t, h2, h3⟩
  · rw [h1, h2]; simp
  · rw [h1, h2, h3]; simp
/-- at most one of both is there -/
def Nd.one (n : Nd) : Prop := n.late = [] ∨ n.early = []
/-- behind a word: wr what is written and read behind a thing from two states, and the states -/
def aft (wr : Int → Int → Int → List Int × Int × Int) (n : Nd) (t : Int) : Option Nd :=
  match n.early with
  | [] => (cmpE (n.late ++ [t]) [] (wr n.p n.q t).1).map fun r => ⟨(wr n.p n.q t).2.1, (wr n.p n.q t).2.2, r.1, r.2⟩
  | e :: es => if e = t then (cmpE n.late es (wr n.p n.q t).1).map fun r => ⟨(wr n.p n.q t).2.1, (wr n.p n.q t).2.2, r.1, r.2⟩ else none
section
variable {wr : Int → Int → Int → List Int × Int × Int}
theorem aft_one {n m : Nd} {t : Int} (h1 : n.one) (h : aft wr n t = some m) : m.one ∧ m.p = (wr n.p n.q t).2.1 ∧ m.q = (wr n.p n.q t).2.2 ∧ m.late.length ≤ n.late.length + 1 ∧ m.early.length ≤ n.early.length + (wr n.p n.q t).1.length := by
  unfold aft at h
  have key : ∀ {l e : List Int} {m : Nd}, e = [] ∨ l = [] → (cmpE l e (wr n.p n.q t).1).map (fun r => (⟨(wr n.p n.q t).2.1, (wr n.p n.q t).2.2, r.1, r.2⟩ : Nd)) = some m → m.one ∧ m.p = (wr n.p n.q t).2.1 ∧ m.q = (wr n.p n.q t).2.2 ∧ m.late.length ≤ l.length ∧ m.early.length ≤ e.length + (wr n.p n.q t).1.length := by
    intro l e m h0 hm
    rw [Option.map_eq_some_iff] at hm
    obtain ⟨r, hr, rfl⟩ := hm
    obtain ⟨g1, g2⟩ := cmpE_len hr
    refine ⟨?_, rfl, rfl, g1, g2⟩
    rcases cmpE_some hr with ⟨z1, z2⟩ | ⟨z1, _⟩
    · rcases h0 with rfl | rfl
      · exact .inr z1
      · exact .inl (List.append_eq_nil_iff.mp z2.symm).2
    · exact .inl z1
  cases he : n.early with
  | nil =>
    rw [he] at h
    dsimp only at h
    obtain ⟨g1, g2, g3, g4, g5⟩ := key (.inl rfl) h
    exact ⟨g1, g2, g3, by simpa using g4, by simpa using g5⟩
  | cons e es =>
    rw [he] at h
    dsimp only at h
    split at h
    · have hl : n.late = [] := h1.elim id fun z => by rw [he] at z; cases z
      obtain ⟨g1, g2, g3, g4, g5⟩ := key (.inr hl) h
      refine ⟨g1, g2, g3, by omega, ?_⟩
      rw [List.length_cons]
      omega
    · cases h
/-- an end behind it leaves nothing -/
def goodN (wr : Int → Int → Int → List Int × Int × Int) : Option Nd → Bool
  | none => false
  | some n => match aft wr n (-1) with
    | some m => m.late.isEmpty && m.early.isEmpty
    | none => false
theorem good_is {n : Nd} (h1 : n.one) (h : goodN wr (some n) = true) : (n.early = [] ∧ (wr n.p n.q (-1)).1 = n.late ++ [-1]) ∨ (n.early = [-1] ∧ n.late = [] ∧ (wr n.p n.q (-1)).1 = []) := by
  unfold goodN at h
  dsimp only at h
  cases ha : aft wr n (-1) with
  | none => rw [ha] at h; cases h
  | some m =>
    rw [ha] at h
    dsimp only at h
    rw [Bool.and_eq_true, List.isEmpty_iff, List.isEmpty_iff] at h
    obtain ⟨hl, he'⟩ := h
    unfold aft at ha
    cases he : n.early with
    | nil =>
      rw [he] at ha
      dsimp only at ha
      rw [Option.map_eq_some_iff] at ha
      obtain ⟨r, hr, rfl⟩ := ha
      dsimp only at hl he'
      refine .inl ⟨rfl, ?_⟩
      rcases cmpE_some hr with ⟨z1, z2⟩ | ⟨z1, t, z2, z3⟩
      · rw [hl, List.append_nil] at z2; exact z2.symm
      · rw [he', List.nil_append] at z3
        rw [z2, ← z3, List.append_nil]
    | cons e es =>
      rw [he] at ha
      dsimp only at ha
      split at ha
      · rename_i hx
        subst hx
        rw [Option.map_eq_some_iff] at ha
        obtain ⟨r, hr, rfl⟩ := ha
        dsimp only at hl he'
        have hn : n.late = [] := h1.elim id fun z => by rw [he] at z; cases z
        rw [hn] at hr
        have := cmpE_nil hr
        rw [this] at he'
        dsimp only at he'
        rw [List.append_eq_nil_iff] at he'
        exact .inr ⟨by rw [he'.1], hn, he'.2⟩
      · cases ha
theorem good_inj {n m : Nd} (h1 : n.one) (h2 : m.one) (hn : goodN wr (some n) = true) (hm : goodN wr (some m) = true) (hp : n.p = m.p) (hq : n.q = m.q) : n = m := by
  have a := good_is h1 hn
  have b := good_is h2 hm
  rw [hp, hq] at a
  cases n with
  | mk p q l e =>
    cases m with
    | mk p' q' l' e' =>
      dsimp only at hp hq a b
      subst hp hq
      rcases a with ⟨rfl, a2⟩ | ⟨rfl, rfl, a2⟩ <;> rcases b with ⟨rfl, b2⟩ | ⟨rfl, rfl, b2⟩
      · rw [a2] at b2
        rw [List.append_cancel_right b2]
      · rw [a2] at b2; simp at b2
      · rw [a2] at b2; simp at b2
      · rfl
end
end Pu
set_option Elab.async false
set_option linter.all false
set_option maxRecDepth 100000
set_option maxHeartbeats 4000000
namespace Pu
open PySem L2 Stp NdefX LamX
open PyProof.Rows hiding St
abbrev Lv := List (Option Nd × List Int)
section
variable (wr : Int → Int → Int → List Int × Int × Int) (st : List Int)
def chk : Lv → Option (List Int)
  | [] => none
  | (o, w) :: r => if goodN wr o = true then chk r else some (w ++ [-1])
def addN (o : Option Nd) (w : List Int) (a : List (Option Nd) × Lv) : List (Option Nd) × Lv := if o ∈ a.1 then a else (a.1 ++ [o], a.2 ++ [(o, w)])
def expT (n : Nd) (w : List Int) : List Int → List (Option Nd) × Lv → List (Option Nd) × Lv
  | [], a => a
  | t :: ts, a => expT n w ts (addN (aft wr n t) (w ++ [t]) a)
def expL : Lv → List (Option Nd) × Lv → List (Option Nd) × Lv
  | [], a => a
  | (none, _) :: r, a => expL r a
  | (some n, w) :: r, a => expL r (expT wr n w st a)
end
section
variable {wr : Int → Int → Int → List Int × Int × Int} {st : List Int}
theorem chk_none : ∀ {lv : Lv}, chk wr lv = none → ∀ x ∈ lv, goodN wr x.1 = true
  | [], _, x, m => nomatch m
  | (o, w) :: r, h, x, m => by
    unfold chk at h
    split at h
    · rename_i hg
      rcases List.mem_cons.mp m with rfl | m
      · exact hg
      · exact chk_none h x m
    · cases h
/-- what is put behind -/
structure Put (a b : List (Option Nd) × Lv) (P : Option Nd × List Int → Prop) : Prop where
  ex : ∃ c : Lv, b.1 = a.1 ++ c.map (·.1) ∧ b.2 = a.2 ++ c ∧ ∀ x ∈ c, P x
  nd : a.1.Nodup → b.1.Nodup
theorem Put.refl {a : List (Option Nd) × Lv} {P : Option Nd × List Int → Prop} : Put a a P := ⟨⟨[], by simp, by simp, by simp⟩, id⟩
theorem Put.trans {a b c : List (Option Nd) × Lv} {P : Option Nd × List Int → Prop} (h : Put a b P) (k : Put b c P) : Put a c P := by
  obtain ⟨x, h1, h2, h3⟩ := h.ex
  obtain ⟨y, k1, k2, k3⟩ := k.ex
  refine ⟨⟨x ++ y, by rw [k1, h1]; simp, by rw [k2, h2]; simp, fun z m => ?_⟩, fun n => k.nd (h.nd n)⟩
  rcases List.mem_append.mp m with m | m
  · exact h3 z m
  · exact k3 z m
theorem Put.mono {a b : List (Option Nd) × Lv} {P R : Option Nd × List Int → Prop} (h : Put a b P) (hp : ∀ x, P x → R x) : Put a b R := by
  obtain ⟨x, h1, h2, h3⟩ := h.ex
  exact ⟨⟨x, h1, h2, fun z m => hp z (h3 z m)⟩, h.nd⟩
theorem put_add {o : Option Nd} {w : List Int} {a : List (Option Nd) × Lv} : Put a (addN o w a) (fun x => x = (o, w)) := by
  unfold addN
  split
  · exact Put.refl
  · rename_i h
    refine ⟨⟨[(o, w)], rfl, rfl, by simp⟩, fun n => List.nodup_append.mpr ⟨n, by simp, fun x hx y hy => ?_⟩⟩
    rw [List.mem_singleton.mp hy]
    exact fun e => h (e ▸ hx)
theorem put_expT {n : Nd} {w : List Int} : ∀ {ts : List Int} {a : List (Option Nd) × Lv}, Put a (expT wr n w ts a) fun x => ∃ t ∈ ts, x = (aft wr n t, w ++ [t])
  | [], a => Put.refl
  | t :: ts, a => (put_add.mono fun x e => ⟨t, List.mem_cons_self .., e⟩).trans (put_expT.mono fun x ⟨u, m, e⟩ => ⟨u, List.mem_cons_of_mem _ m, e⟩)
theorem put_expL : ∀ {lv : Lv} {a : List (Option Nd) × Lv}, Put a (expL wr st lv a) fun x => ∃ n w, (some n, w) ∈ lv ∧ ∃ t ∈ st, x = (aft wr n t, w ++ [t])
  | [], a => Put.refl
  | (none, w) :: r, a => (put_expL (lv := r) (a := a)).mono fun x ⟨n, w, m, e⟩ => ⟨n, w, List.mem_cons_of_mem _ m, e⟩
  | (some n, w) :: r, a => (put_expT.mono fun x e => ⟨n, w, List.mem_cons_self .., e⟩).trans ((put_expL (lv := r)).mono fun x ⟨n, w, m, e⟩ => ⟨n, w, List.mem_cons_of_mem _ m, e⟩)
/-- a node of two machines with so many states; what waits is short -/
structure NdOk (P Q E : Nat) (n : Nd) : Prop where
  bx : Box P Q (n.p, n.q)
  on : n.one
  ll : n.late.length ≤ E + 1
  le : n.early.length ≤ E + 1
/-- a walk under way -/
structure WI (wr : Int → Int → Int → List Int × Int × Int) (P Q E : Nat) (done : List Nd) (l : Lv) (m : List (Option Nd)) : Prop where
  mt : m = done.map some ++ l.map (·.1)
  nd : m.Nodup
  dn : ∀ n ∈ done, NdOk P Q E n ∧ goodN wr (some n) = true
  lv : ∀ x ∈ l, x.2.length ≤ done.length ∧ ∀ n, x.1 = some n → NdOk P Q E n
/-- the machines stay in their states; at most E things are told behind a thing -/
structure WrOk (wr : Int → Int → Int → List Int × Int × Int) (st : List Int) (P Q E : Nat) : Prop where
  bx : ∀ p q t, Box P Q (p, q) → (t ∈ st ∨ t = -1) → Box P Q ((wr p q t).2.1, (wr p q t).2.2)
  le : ∀ p q t, Box P Q (p, q) → (t ∈ st ∨ t = -1) → (wr p q t).1.length ≤ E
theorem WI.len {P Q E : Nat} {done : List Nd} {lv : Lv} {mt : List (Option Nd)} (h : WI wr P Q E done lv mt) : done.length ≤ P * Q := by
  have nd : done.Nodup := by
    have := (List.nodup_append.mp (h.mt ▸ h.nd)).1
    exact List.Pairwise.imp (fun z e => z (congrArg some e)) (List.pairwise_map.mp this)
  have h1 : (done.map fun n => ((n.p, n.q) : P2)).Nodup := by
    refine List.pairwise_map.mpr (List.Pairwise.imp_of_mem (fun {x y} hx hy ne e => ne ?_) nd)
    have e1 : (x.p, x.q) = (y.p, y.q) := e
    exact good_inj (h.dn x hx).1.on (h.dn y hy).1.on (h.dn x hx).2 (h.dn y hy).2 (congrArg Prod.fst e1) (congrArg Prod.snd e1)
  have h2 := box_len (a := P) (b := Q) ⟨h1, fun x hx => by
    obtain ⟨n, hn, rfl⟩ := List.mem_map.mp hx
    exact (h.dn n hn).1.bx⟩
  rwa [List.length_map] at h2
theorem good_len {P Q E : Nat} (hw : WrOk wr st P Q E) {n : Nd} (h : NdOk P Q E n) (g : goodN wr (some n) = true) : n.late.length ≤ E ∧ n.early.length ≤ 1 := by
  have l := hw.le n.p n.q (-1) h.bx (.inr rfl)
  rcases good_is h.on g with ⟨g1, g2⟩ | ⟨g1, g2, g3⟩
  · rw [g2] at l
    rw [g1]
    simp at l
    exact ⟨by omega, by simp⟩
  · rw [g1, g2]; simp
/-- one turn -/
theorem WI.turn {P Q E : Nat} {done : List Nd} {lv : Lv} {mt : List (Option Nd)} (hw : WrOk wr st P Q E) (h : WI wr P Q E done lv mt) (hl : lv ≠ []) (hc : chk wr lv = none) :
    ∃ done', WI wr P Q E done' (expL wr st lv (mt, [])).2 (expL wr st lv (mt, [])).1 ∧ done'.length = done.length + lv.length := by
  have gd := chk_none hc
  have sm : ∀ l : Lv, (∀ x ∈ l, goodN wr x.1 = true) → ∃ ns : List Nd, l.map (·.1) = ns.map some := by
    intro l
    induction l with
    | nil => exact fun _ => ⟨[], rfl⟩
    | cons x l ih =>
      intro hg
      obtain ⟨ns, e⟩ := ih fun y m => hg y (List.mem_cons_of_mem _ m)
      obtain ⟨o, w⟩ := x
      cases o with
      | none => have := hg _ (List.mem_cons_self ..); simp [goodN] at this
      | some n => exact ⟨n :: ns, by rw [List.map_cons, List.map_cons, e]⟩
  obtain ⟨ns, en⟩ := sm lv gd
  have ln : ns.length = lv.length := by
    have := congrArg List.length en
    simpa using this.symm
  have pl : 0 < lv.length := List.length_pos_iff.mpr hl
  have pt := put_expL (wr := wr) (st := st) (lv := lv) (a := (mt, []))
  obtain ⟨c, c1, c2, c3⟩ := pt.ex
  rw [List.nil_append] at c2
  have nsm : ∀ n ∈ ns, ∃ w, (some n, w) ∈ lv := fun n hn => by
    have : some n ∈ lv.map (·.1) := by rw [en]; exact List.mem_map_of_mem hn
    obtain ⟨x, hx, ex⟩ := List.mem_map.mp this
    exact ⟨x.2, by rw [← ex]; exact hx⟩
  refine ⟨done ++ ns, ⟨?_, pt.nd h.nd, ?_, ?_⟩, by rw [List.length_append]; omega⟩
  · rw [c1, c2, h.mt, en, List.map_append]
  · intro n m
    rcases List.mem_append.mp m with m | m
    · exact h.dn n m
    · obtain ⟨w, hx⟩ := nsm n m
      exact ⟨(h.lv _ hx).2 n rfl, gd _ hx⟩
  · intro x hx
    rw [c2] at hx
    obtain ⟨n, w, m, t, ht, rfl⟩ := c3 x hx
    have ok := (h.lv _ m).2 n rfl
    have wl := (h.lv _ m).1
    dsimp only at wl ⊢
    refine ⟨by rw [List.length_append, List.length_append, List.length_singleton]; omega, fun n' e' => ?_⟩
    obtain ⟨g1, g2⟩ := good_len hw ok (gd _ m)
    obtain ⟨z1, z2, z3, z4, z5⟩ := aft_one ok.on e'
    refine ⟨?_, z1, by omega, ?_⟩
    · rw [z2, z3]; exact hw.bx _ _ _ ok.bx (.inl ht)
    · have := hw.le n.p n.q t ok.bx (.inl ht)
      omega
theorem WI.start {P Q E : Nat} {b : Nd} (h : NdOk P Q E b) : WI wr P Q E [] [(some b, [])] [some b] :=
  ⟨rfl, by simp, (fun n m => nomatch m), fun x m => by rw [List.mem_singleton.mp m]; exact ⟨Nat.le_refl _, fun n e => by cases e; exact h⟩⟩
end
end Pu
set_option Elab.async false
set_option linter.all false
set_option maxRecDepth 100000
set_option maxHeartbeats 4000000
namespace Pu
open PySem L2 Stp NdefX LamX
open PyProof.Rows hiding St
section
variable {m m1 m2 mk mv : Env → T D} {m0 : Env → T O} {env : Env} {i j : Nat}
@[simp] theorem oAddQ_def : oAddQ m1 m2 env = (m1 env).bind fun a => (m2 env).bind fun b => addQ a b := (rfl)
@[simp] theorem addQ_lst {xs ys : List D} : addQ (.lst xs) (.lst ys) = grd (xs.length + ys.length ≤ big) (.ret (.ls (xs ++ ys))) := (rfl)
@[simp] theorem oCopyN_def : oCopyN m env = (aCons m aNil env).bind copyN := (rfl)
@[simp] theorem copyN_def {ks : List D} {v : D} : copyN [.dN [(.tup ks, v)]] = .ret (.dn [(.tup ks, v)]) := (rfl)
@[simp] theorem oDisp1N_def : oDisp1N mk mv env = (mk env).bind fun k => (mv env).bind fun d => match k with
  | .tup ks => (match nkD (.tup ks) with
    | some _ => .ret (.dn [(.tup ks, d)])
    | none => .fail)
  | _ => .fail := (rfl)
@[simp] theorem qNew_def : qNew m0 env = (m0 env).bind fun o => .ret o.toD := (rfl)
@[simp] theorem toD_dn {kvs : List (D × D)} : O.toD (.dn kvs) = .dN kvs := (rfl)
@[simp] theorem iItemsN_def : iItemsN m env = (m env).bind fun d => match d with
  | .dN kvs => .ret (itemsN kvs)
  | _ => .fail := (rfl)
@[simp] theorem dputN_def : dputN i mk mv env = ownN i env fun kvs => exS (fun env => (mv env).bind fun d => (mk env).bind fun j => .ret (d, j)) (fun p env => match nkD p.2 with
  | some k => grd (kvs.length ≤ big) (.ret (.nx (env.set i (some (.dn (putN kvs k p.2 p.1))))))
  | none => .fail) env := (rfl)
end
end Pu
set_option Elab.async false
set_option linter.all false
set_option maxRecDepth 100000
set_option maxHeartbeats 1000000
namespace Pu
open PySem L2 Stp NdefX LamX
open PyProof.Rows hiding St
open TL
section
variable {f : Str → D → T D} {mo me mb mc mi mr : Env → T D} {env : Env} {a b : Str} {ms : List (Env → T D)} {acc : Str} {ma : Env → T (List D)}
@[simp] theorem qStr_def : qStr f mo me env = (mo env).bind fun d => match d with | .str a => (me env).bind (f a) | _ => .fail := (rfl)
@[simp] theorem joinD_lst {ds : List D} : joinD a (.lst ds) = (match strL ds with | some ys => grd ((ys.map (·.length)).sum + ys.length * a.length ≤ big) (.ret (.str (Txt.join a ys))) | none => .fail) := (rfl)
@[simp] theorem strL_mapS (ys : List Str) : strL (ys.map D.str) = some ys := strL_map ys
@[simp] theorem splitD_str : splitD a (.str b) = grd ((b.length == 0) = false ∧ a.length ≤ big) (.ret (.lst ((Txt.split a b).map .str))) := (rfl)
@[simp] theorem intTF_str : intTF [.str a] = grd (a.length ≤ 640) (match PySem.intText? a with | some n => .ret (.int n) | none => .fail) := (rfl)
@[simp] theorem fmtD_str : fmtD (.str a) = grd (a.length ≤ big) (.ret (.str a)) := (rfl)
@[simp] theorem fmtD_int {i : Int} : fmtD (.int i) = grd (i.natAbs.log2 < 1920) (.ret (.str (toString i))) := (rfl)
@[simp] theorem fJs_nil : fJs [] acc env = .ret (.str acc) := (rfl)
@[simp] theorem fJs_cons {m : Env → T D} : fJs (m :: ms) acc env = (m env).bind fun d => match d with | .str y => grd ((acc ++ y).length ≤ big) (fJs ms (acc ++ y) env) | _ => .fail := (rfl)
@[simp] theorem iChrs_def : iChrs me env = (me env).bind fun d => match d with | .str x => .ret (chrs x) | _ => .fail := (rfl)
@[simp] theorem iEnumK_def : iEnumK me mb env = (me env).bind fun d => (mb env).bind fun k => match d, k with | .lst xs, .int k => grd (-1000000 ≤ k ∧ k ≤ 1000000) (.ret (enumF k xs)) | _, _ => .fail := (rfl)
@[simp] theorem qGetW_def {kvs : List (D × D)} : qGetW kvs mb mc env = (mb env).bind fun y => (mc env).bind (getDN kvs y) := (rfl)
@[simp] theorem qGetDK_def : qGetDK me mb mc env = (me env).bind fun d => match d with | .dK kvs => (mb env).bind fun y => (mc env).bind (getDK kvs y) | _ => .fail := (rfl)
@[simp] theorem oDisp2K_def {mk mv ml mu : Env → T D} : oDisp2K mk mv ml mu env = (mk env).bind fun k => (mv env).bind fun d => (ml env).bind fun l => (mu env).bind fun e => match keyD k, keyD l with | some kk, some ll => if kk = ll then .fail else .ret (.dk [(kk, d), (ll, e)]) | _, _ => .fail := (rfl)
@[simp] theorem aLamK_def : aLamK ma env = (ma env).bind fun ds => .ret (.rf 0 :: ds) := (rfl)
@[simp] theorem kindS_def {i : Nat} {ms : Env → T Fl} : kindS i me ms env = (me env).bindX (fun d => onlyRt (ms (env.set i (some (.fz d))))) fun e => .ret (.ex e env) := (rfl)
@[simp] theorem onlyRt_rt {d : D} : onlyRt (.ret (.rt d)) = if plainD d = true then .ret (.rt d) else .fail := (rfl)
@[simp] theorem onlyRt_ex {e : D} : onlyRt (.ret (.ex e env)) = .ret (.ex e (env.map fun _ => none)) := (rfl)
@[simp] theorem callKq_def {np id : Nat} {mf : List D → T D} {js : List Nat} : callKq np mf id js ma env = (ma env).bind fun ds => match capsD env js with
  | some cs => (match subKL (.fn id cs) ds with | some ds' => grd (hasK ds = true) (callL np mf ds') | none => .fail) | none => .fail := (rfl)
@[simp] theorem qCallA_def {L : LamL} {c : Nat} {m : Str} : qCallA L c m mo ma env = (mo env).bind fun o => match o with
  | .obj c' fs => if c' = c then (match fs.lookup m with | some (.fn id cs) => (ma env).bind fun ds => callV L (.fn id cs) ds | _ => .fail) else .fail
  | _ => .fail := (rfl)
@[simp] theorem getDK_int {kvs : List (Key × D)} {i : Int} {z : D} : getDK kvs (.int i) z = .ret ((valD kvs (.inl i)).getD z) := (rfl)
theorem getDN_int {kvs : List (D × D)} {i : Int} {z : D} : getDN kvs (.int i) z = .ret ((valN kvs (.num i)).getD z) := by
  unfold getDN
  have : nkD (.int i) = some (.num i) := by simp [nkD, keyN, NestedKey.depth, Mk.topK]
  rw [this]
end
def numS (n : Nat) : Str := Str.ofString (toString ((n : Nat) : Int))
def numO (x : Str) : Option Nat := (List.range 100).find? fun n => decide (x = numS n)
theorem tl_numS (n : Nat) : tl (numS n) = numL n := tl_num n
theorem numS_inj {m n : Nat} (h : numS m = numS n) : m = n := numL_inj (by rw [← tl_numS, ← tl_numS, h])
theorem numO_some {x : Str} {n : Nat} (h : numO x = some n) : n < 100 ∧ x = numS n := by
  unfold numO at h
  have h1 := List.find?_some h
  have h2 := List.mem_of_find?_eq_some h
  exact ⟨List.mem_range.mp h2, of_decide_eq_true h1⟩
theorem numO_num {n : Nat} (h : n < 100) : numO (numS n) = some n := by
  cases e : numO (numS n) with
  | none =>
    unfold numO at e
    rw [List.find?_eq_none] at e
    exact absurd (by simp) (e n (List.mem_range.mpr h))
  | some m => rw [numS_inj (numO_some e).2]
theorem numO_none {x : Str} (h : ∀ n, n < 100 → x ≠ numS n) : numO x = none := by
  cases e : numO x with
  | none => rfl
  | some m => exact absurd (numO_some e).2 (h m (numO_some e).1)
def numD (x : Str) : D := match numO x with
  | some n => .int n
  | none => .non
def figs : Str := "0123456789"
def isFig (c : Nat) : Bool := decide (48 ≤ c) && decide (c ≤ 57)
theorem fig_mem (c : Nat) : decide (c ∈ figs.cps.toList) = isFig c := by
  have e : figs.cps.toList = [48, 49, 50, 51, 52, 53, 54, 55, 56, 57] := by kernel_rfl
  rw [e, Bool.eq_iff_iff]
  simp [isFig]
  omega
theorem in_fig (c : Nat) : inD (.str ⟨#[c]⟩) (.str figs) = .ret (.bl (isFig c)) := by
  rw [← fig_mem, ← StrLaws.found_one]
  rfl
theorem numS_figs (n : Nat) : ∀ c ∈ tl (numS n), isFig c = true := by
  intro c h
  rw [tl_numS] at h
  have z := numL_digits n c h
  simp [isFig]
  omega
theorem len_str (x : Str) : x.length = x.cps.toList.length := by simp [Str.length]
theorem numS_len {n : Nat} (h : n < 100) : 1 ≤ (numS n).length ∧ (numS n).length ≤ 2 := by
  have e : (numS n).length = (numL n).length := by rw [len_tl, tl_numS]
  rw [e]
  refine ⟨?_, numL_len (by decide) (by omega)⟩
  have := numL_ne n
  cases q : numL n with
  | nil => exact absurd q this
  | cons _ _ => simp
/-- a text of one or two figures -/
def digB (x : Str) : Bool := match PySem.intText? x with
  | some n => decide (0 ≤ n) && (decide (n < 100) && (if decide (x = Str.ofString (toString n)) = true then numO x == some n.toNat else numO x == none))
  | none => false
theorem digs1 : (List.range 10).all (fun a => digB ⟨#[48 + a]⟩) = true := by kernel_rfl
theorem digs2 : (List.range 10).all (fun a => (List.range 10).all fun b => digB ⟨#[48 + a, 48 + b]⟩) = true := by kernel_rfl
theorem str_of {x : Str} {l : List Nat} (h : x.cps.toList = l) : x = ⟨l.toArray⟩ := by
  obtain ⟨⟨l'⟩⟩ := x
  rw [← h]
theorem dig_ok {x : Str} (h1 : 1 ≤ x.length) (h2 : x.length ≤ 2) (h : ∀ c ∈ x.cps.toList, isFig c = true) : digB x = true := by
  rw [len_str] at h1 h2
  generalize e : x.cps.toList = l at h1 h2 h
  rw [str_of e]
  have g : ∀ c, isFig c = true → ∃ a, a < 10 ∧ c = 48 + a := fun c hc => by
    simp [isFig] at hc
    exact ⟨c - 48, by omega, by omega⟩
  match l, h1, h2, h with
  | [c], _, _, h =>
    obtain ⟨a, ha, rfl⟩ := g c (h c (by simp))
    exact List.all_eq_true.mp digs1 a (List.mem_range.mpr ha)
  | [c, d], _, _, h =>
    obtain ⟨a, ha, rfl⟩ := g c (h c (by simp))
    obtain ⟨b, hb, rfl⟩ := g d (h d (by simp))
    exact List.all_eq_true.mp (List.all_eq_true.mp digs2 a (List.mem_range.mpr ha)) b (List.mem_range.mpr hb)
theorem num_not {x : Str} (h : ¬ (1 ≤ x.length ∧ x.length ≤ 2) ∨ ∃ c ∈ x.cps.toList, isFig c = false) : numO x = none := by
  refine numO_none fun n hn e => ?_
  subst e
  rcases h with h | ⟨c, hc, h⟩
  · exact h (numS_len hn)
  · have := numS_figs n c hc
    rw [h] at this
    cases this
theorem dig_num {x : Str} (h1 : 1 ≤ x.length) (h2 : x.length ≤ 2) (h : ∀ c ∈ x.cps.toList, isFig c = true) : ∃ n : Nat, n < 100 ∧ PySem.intText? x = some (n : Int) ∧ numD x = if x = numS n then .int n else .non := by
  have z := dig_ok h1 h2 h
  unfold digB at z
  cases q : PySem.intText? x with
  | none => rw [q] at z; cases z
  | some m =>
    rw [q] at z
    simp only [Bool.and_eq_true, decide_eq_true_eq] at z
    obtain ⟨z0, z1, z2⟩ := z
    obtain ⟨n, rfl⟩ := Int.eq_ofNat_of_zero_le z0
    refine ⟨n, by omega, rfl, ?_⟩
    unfold numD
    by_cases e : x = numS n
    · rw [if_pos e]
      rw [if_pos (show x = Str.ofString (toString (n : Int)) from e)] at z2
      have z2 : numO x = some n := by simpa using z2
      rw [z2]
    · rw [if_neg e]
      rw [if_neg (show ¬ x = Str.ofString (toString (n : Int)) from e)] at z2
      have z2 : numO x = none := by simpa using z2
      rw [z2]
theorem strIF_num {n : Nat} (h : n < 100000) : strIF [.int n] = .ret (.str (numS n)) := strIF_ok (by omega)
theorem lenF_str {x : Str} (h : x.length ≤ 100000) : lenF [.str x] = .ret (.int x.length) := by
  show grd (x.length ≤ big) _ = _
  rw [grd_pos (by unfold big; omega)]
end Pu
namespace Pu
open PySem L2 Stp NdefX LamX
open PyProof.Rows hiding St
open TL
def optI : Option Int → D
  | some i => .int i
  | none => .non
def sgO (k : Int) (x : Str) : Option Int := match numO x with
  | some n => if (n : Int) < k then some n else none
  | none => none
def evO (k : Int) (x : Str) : Option Int := if x = "e" then some (-1) else if x = "d" then some (-2) else sgO k x
def evS (i : Int) : Str := if i = -1 then "e" else if i = -2 then "d" else Str.ofString (toString i)
def txI (xs : List Int) : Str := if xs = [] then "-" else Txt.join "." (xs.map evS)
def lnS (v : Mv) : Str := txI v.1 ++ " " ++ Str.ofString (toString v.2)
def rowS (r : List Mv) : List Str := "state" :: r.map lnS
def headS (word : Str) (m : Mch) : Str := word ++ " " ++ Str.ofString (toString m.many) ++ " " ++ Str.ofString (toString m.kinds)
def linesM (word : Str) (m : Mch) : List Str := headS word m :: (m.rows.map rowS).flatten
theorem valN_ev (i : Int) (z : D) : (valN (mdD [(-1, "e"), (-2, "d")]) (.num i)).getD z = if i = -1 then .str "e" else if i = -2 then .str "d" else z := by
  have h1 : nkD (.int (-1)) = some (.num (-1)) := by simp [nkD, keyN, NestedKey.depth, Mk.topK]
  have h2 : nkD (.int (-2)) = some (.num (-2)) := by simp [nkD, keyN, NestedKey.depth, Mk.topK]
  unfold valN mdD
  rw [List.map_cons, List.map_cons, List.map_nil]
  dsimp only
  rw [List.find?_cons]
  dsimp only
  rw [h1]
  by_cases e : i = -1
  · subst e; rfl
  · rw [if_neg e]
    have e1 : decide (some (NestedKey.num (-1)) = some (NestedKey.num i)) = false := by simp; omega
    rw [e1, List.find?_cons]
    dsimp only
    rw [h2]
    by_cases e' : i = -2
    · subst e'; rfl
    · rw [if_neg e']
      have e1 : decide (some (NestedKey.num (-2)) = some (NestedKey.num i)) = false := by simp; omega
      rw [e1]
      rfl
theorem evS_w (i : Int) : (if i = -1 then D.str "e" else if i = -2 then D.str "d" else D.str (Str.ofString (toString i))) = .str (evS i) := by
  unfold evS
  split
  · rfl
  · split <;> rfl
theorem evS_nat {i : Int} (h : 0 ≤ i) : evS i = numS i.toNat := by
  unfold evS numS
  rw [if_neg (by omega), if_neg (by omega), Int.toNat_of_nonneg h]
theorem evS_len {i : Int} (h1 : -2 ≤ i) (h2 : i < 100) : (evS i).length ≤ 2 := by
  by_cases h : 0 ≤ i
  · rw [evS_nat h]
    exact (numS_len (by omega)).2
  · unfold evS
    split
    · decide
    · split
      · decide
      · omega
theorem sum_len {xs : List Int} (h : ∀ i ∈ xs, -2 ≤ i ∧ i < 100) : ((xs.map evS).map (·.length)).sum ≤ 2 * xs.length := by
  induction xs with
  | nil => simp
  | cons x xs ih =>
    rw [List.map_cons, List.map_cons, List.sum_cons, List.length_cons]
    have := ih fun i m => h i (List.mem_cons_of_mem _ m)
    have := evS_len (h x (List.mem_cons_self ..)).1 (h x (List.mem_cons_self ..)).2
    omega
theorem sgO_num {k : Int} {i : Int} (h1 : 0 ≤ i) (h2 : i < k) (h3 : i < 100) : sgO k (evS i) = some i := by
  unfold sgO
  rw [evS_nat h1, numO_num (by omega)]
  dsimp only
  rw [if_pos (by omega), Int.toNat_of_nonneg h1]
theorem numS_not (n : Nat) {x : Str} (h : ∃ c ∈ tl x, isFig c = false) : numS n ≠ x := by
  rintro rfl
  obtain ⟨c, m, e⟩ := h
  rw [numS_figs n c m] at e
  cases e
theorem evO_ev {k : Int} {i : Int} (h1 : -2 ≤ i) (h2 : i < k) (h3 : i < 100) : evO k (evS i) = some i := by
  by_cases h : 0 ≤ i
  · unfold evO
    rw [if_neg, if_neg]
    · exact sgO_num h h2 h3
    · rw [evS_nat h]
      exact numS_not _ ⟨100, by decide, by decide⟩
    · rw [evS_nat h]
      exact numS_not _ ⟨101, by decide, by decide⟩
  · obtain rfl | rfl : i = -1 ∨ i = -2 := by omega
    · rfl
    · rfl
end Pu
namespace Pu
open PySem L2 Stp NdefX LamX
open PyProof.Rows hiding St
open TL
theorem mem_joinL {S : List Nat} {c : Nat} : ∀ {ls : List (List Nat)}, c ∈ TL.joinL S ls → c ∈ S ∨ ∃ l ∈ ls, c ∈ l
  | [], h => by simp [TL.joinL] at h
  | [l], h => .inr ⟨l, by simp, by simpa [TL.joinL] using h⟩
  | l :: l2 :: ls, h => by
    have h : c ∈ l ++ (S ++ TL.joinL S (l2 :: ls)) := h
    rcases List.mem_append.mp h with h | h
    · exact .inr ⟨l, by simp, h⟩
    rcases List.mem_append.mp h with h | h
    · exact .inl h
    · rcases mem_joinL h with h | ⟨x, m, h⟩
      · exact .inl h
      · exact .inr ⟨x, by simp at m ⊢; exact .inr m, h⟩
theorem tl_jn (y : Str) (ps : List Str) : tl (Txt.join y ps) = TL.joinL (tl y) (ps.map tl) := by rw [join_eq, tl_join]
theorem join2 (y a b : Str) : Txt.join y [a, b] = a ++ y ++ b := by
  apply ext_tl
  rw [tl_jn, tl_append, tl_append]
  simp [TL.joinL]
theorem join3 (y a b c : Str) : Txt.join y [a, b, c] = a ++ y ++ b ++ y ++ c := by
  apply ext_tl
  rw [tl_jn, tl_append, tl_append, tl_append, tl_append]
  simp [TL.joinL]
def Free (s : Nat) (x : Str) : Prop := s ∉ tl x
theorem free_evS {s : Nat} {i : Int} (h : isFig s = false) (h2 : s ≠ 100) (h3 : s ≠ 101) (hi : -2 ≤ i) : Free s (evS i) := by
  intro m
  by_cases h0 : 0 ≤ i
  · rw [evS_nat h0] at m
    rw [numS_figs _ s m] at h
    cases h
  · obtain rfl | rfl : i = -1 ∨ i = -2 := by omega
    · have m : s ∈ [101] := m
      simp at m
      exact h3 m
    · have m : s ∈ [100] := m
      simp at m
      exact h2 m
theorem free_num {s n : Nat} (h : isFig s = false) : Free s (numS n) := fun m => by
  rw [numS_figs _ s m] at h
  cases h
theorem free_txI {s : Nat} {xs : List Int} (h : isFig s = false) (h2 : s ≠ 100) (h3 : s ≠ 101) (h4 : s ≠ 45) (h5 : s ≠ 46) (hi : ∀ i ∈ xs, -2 ≤ i) : Free s (txI xs) := by
  unfold txI Free
  split
  · intro m
    have m : s ∈ [45] := m
    simp at m
    exact h4 m
  · rw [tl_jn]
    intro m
    rcases mem_joinL m with m | ⟨l, hl, m⟩
    · have m : s ∈ [46] := m
      simp at m
      exact h5 m
    · rw [List.map_map] at hl
      obtain ⟨i, hm, rfl⟩ := List.mem_map.mp hl
      exact free_evS h h2 h3 (hi i hm) m
theorem free_app {s : Nat} {a b : Str} (h1 : Free s a) (h2 : Free s b) : Free s (a ++ b) := by
  unfold Free at *
  rw [tl_append, List.mem_append]
  exact fun h => h.elim h1 h2
theorem split_dots {xs : List Int} (hne : xs ≠ []) (hi : ∀ i ∈ xs, -2 ≤ i) : Txt.split (txI xs) "." = xs.map evS := by
  unfold txI
  rw [if_neg hne]
  refine split_join (s := 46) (S := []) rfl (by kernel_rfl) (by simpa using hne) fun p hp => ?_
  obtain ⟨i, hm, rfl⟩ := List.mem_map.mp hp
  exact free_evS (by decide) (by decide) (by decide) (hi i hm)
theorem split_two {a b : Str} (h1 : Free 32 a) (h2 : Free 32 b) : Txt.split (a ++ " " ++ b) " " = [a, b] := by
  rw [← join2]
  refine split_join (s := 32) (S := []) rfl (by kernel_rfl) (by simp) fun p hp => ?_
  simp at hp
  rcases hp with rfl | rfl
  · exact h1
  · exact h2
theorem split_three {a b c : Str} (h1 : Free 32 a) (h2 : Free 32 b) (h3 : Free 32 c) : Txt.split (a ++ " " ++ b ++ " " ++ c) " " = [a, b, c] := by
  rw [← join3]
  refine split_join (s := 32) (S := []) rfl (by kernel_rfl) (by simp) fun p hp => ?_
  simp at hp
  rcases hp with rfl | rfl | rfl
  · exact h1
  · exact h2
  · exact h3
theorem split_lines {ls : List Str} (hne : ls ≠ []) (h : ∀ l ∈ ls, Free 10 l) : Txt.split (Txt.join "\n" ls) "\n" = ls := split_join (s := 10) (S := []) rfl (by kernel_rfl) hne h
end Pu
namespace Pu
open PySem L2 Stp NdefX LamX
open PyProof.Rows hiding St
open TL
theorem spl_len {S : List Nat} : ∀ (l : List Nat) (k : Nat) (acc p : List Nat), p ∈ spl S k acc l → p.length ≤ acc.length + l.length
  | [], k, acc, p, h => by
    rw [spl_nil] at h
    rw [List.mem_singleton.mp h]
    exact Nat.le_add_right _ _
  | c :: r, 0, acc, p, h => by
    by_cases e : TL.pre S (c :: r) = true
    · rw [spl_hit e] at h
      rcases List.mem_cons.mp h with rfl | h
      · omega
      · have := spl_len r _ _ p h
        simp at this ⊢
        omega
    · have e : TL.pre S (c :: r) = false := by simpa using e
      rw [spl_miss e] at h
      have := spl_len r _ _ p h
      simp at this ⊢
      omega
  | c :: r, k + 1, acc, p, h => by
    have h : p ∈ spl S k acc r := h
    have := spl_len r k acc p h
    simp at this ⊢
    omega
theorem split_part {x y p : Str} (hy : tl y ≠ []) (hk : y.cps.all (· < 256) = true) (h : p ∈ Txt.split x y) : p.length ≤ x.length := by
  have e := split_spl x y hy (kind_ok hk)
  have m : tl p ∈ spl (tl y) 0 [] (tl x) := by
    rw [← e]
    exact List.mem_map_of_mem h
  have := spl_len _ _ _ _ m
  rw [len_tl, len_tl x]
  simpa using this
def moveO (item : Str → Option Int) (most : Int) (longest : Nat) (line : Str) : Option Mv := match Txt.split line " " with
  | [a, b] => (match numO b with
    | some l => if (l : Int) < most then (if a = "-" then some ([], l) else if ((Txt.split a ".").all fun w => (item w).isSome) = true ∧ (Txt.split a ".").length ≤ longest then some ((Txt.split a ".").filterMap item, l) else none) else none
    | none => none)
  | _ => none
def rdStep (item : Str → Option Int) (most : Int) (longest moves : Nat) (rows : List (List Mv)) (line : Str) : Option (List (List Mv)) :=
  if rows = [] ∨ (rows.getD (rows.length - 1) []).length = moves then (if line = "state" ∧ ¬ (rows.length : Int) = most then some (rows ++ [[]]) else none)
  else match moveO item most longest line with
    | some v => some (rows.set (rows.length - 1) (rows.getD (rows.length - 1) [] ++ [v]))
    | none => none
def rdL (item : Str → Option Int) (most : Int) (longest moves : Nat) : Nat → List (List Mv) → List Str → Except Nat (List (List Mv))
  | _, rows, [] => .ok rows
  | i, rows, l :: ls => match rdStep item most longest moves rows l with
    | some r => rdL item most longest moves (i + 1) r ls
    | none => .error i
def latF (rows : List (List Mv)) : Int := match rows.flatten.map (·.2) with
  | [] => 0
  | y :: ys => maxF y ys
def readR (item : Str → Option Int) (most : Int) (longest moves : Nat) (lines : List Str) : Except Nat (List (List Mv)) := match rdL item most longest moves 1 [] (lines.drop 1) with
  | .error i => .error i
  | .ok rows => if rows = [] ∨ (rows.getD (rows.length - 1) []).length < moves ∨ (rows.length : Int) ≤ latF rows then .error lines.length else .ok rows
end Pu
set_option Elab.async false
set_option linter.all false
set_option maxRecDepth 100000
set_option maxHeartbeats 1000000
namespace Pu
open PySem L2 Stp NdefX LamX
open PyProof.Rows hiding St
open TL
def Low (x : Str) : Prop := ∀ c ∈ tl x, c < 256
theorem low_dec {x : Str} (h : (tl x).all (fun c => decide (c < 256)) = true) : Low x := fun c m => of_decide_eq_true (List.all_eq_true.mp h c m)
theorem free_dec {s : Nat} {x : Str} (h : (tl x).all (fun c => !decide (c = s)) = true) : Free s x := fun m => by
  have := List.all_eq_true.mp h s m
  simp at this
theorem Low.app {a b : Str} (h1 : Low a) (h2 : Low b) : Low (a ++ b) := by
  intro c m
  rw [tl_append, List.mem_append] at m
  exact m.elim (h1 c) (h2 c)
theorem low_num (n : Nat) : Low (numS n) := fun c m => by
  have := numS_figs n c m
  simp [isFig] at this
  omega
theorem low_join {y : Str} {ps : List Str} (hy : Low y) (h : ∀ p ∈ ps, Low p) : Low (Txt.join y ps) := by
  intro c m
  rw [tl_jn] at m
  rcases mem_joinL m with m | ⟨l, hl, m⟩
  · exact hy c m
  · obtain ⟨p, hp, rfl⟩ := List.mem_map.mp hl
    exact h p hp c m
theorem low_ev {i : Int} (h : -2 ≤ i) : Low (evS i) := by
  by_cases h0 : 0 ≤ i
  · rw [evS_nat h0]
    exact low_num _
  · obtain rfl | rfl : i = -1 ∨ i = -2 := by omega
    · exact low_dec (by kernel_rfl)
    · exact low_dec (by kernel_rfl)
theorem low_txI {xs : List Int} (h : ∀ i ∈ xs, -2 ≤ i) : Low (txI xs) := by
  unfold txI
  split
  · exact low_dec (by kernel_rfl)
  · refine low_join (low_dec (by kernel_rfl)) fun p hp => ?_
    obtain ⟨i, hm, rfl⟩ := List.mem_map.mp hp
    exact low_ev (h i hm)
theorem len_app (a b : Str) : (a ++ b).length = a.length + b.length := by rw [len_tl, len_tl, len_tl, tl_append, List.length_append]
theorem joinL_len (S : List Nat) : ∀ ls : List (List Nat), (TL.joinL S ls).length ≤ (ls.map (·.length)).sum + ls.length * S.length
  | [] => by simp [TL.joinL]
  | [l] => by simp [TL.joinL]
  | l :: l2 :: ls => by
    have h : TL.joinL S (l :: l2 :: ls) = l ++ (S ++ TL.joinL S (l2 :: ls)) := rfl
    have ih := joinL_len S (l2 :: ls)
    rw [h, List.length_append, List.length_append, List.map_cons, List.sum_cons, List.length_cons, Nat.succ_mul]
    omega
theorem join_len (y : Str) (ps : List Str) : (Txt.join y ps).length ≤ (ps.map (·.length)).sum + ps.length * y.length := by
  have h := joinL_len (tl y) (ps.map tl)
  rw [len_tl, tl_jn]
  rw [List.map_map, List.length_map, ← len_tl] at h
  rw [show (ps.map (·.length)) = ps.map ((fun l => l.length) ∘ tl) from List.map_congr_left fun p _ => by rw [len_tl]; rfl]
  exact h
theorem sum_bound {b : Nat} : ∀ {ps : List Str}, (∀ p ∈ ps, p.length ≤ b) → (ps.map (·.length)).sum ≤ b * ps.length
  | [], _ => by simp
  | p :: ps, h => by
    have := sum_bound fun q m => h q (List.mem_cons_of_mem p m)
    have := h p (List.mem_cons_self ..)
    rw [List.map_cons, List.sum_cons, List.length_cons, Nat.mul_succ]
    omega
theorem txI_len {xs : List Int} (h : ∀ i ∈ xs, -2 ≤ i ∧ i < 100) : (txI xs).length ≤ 3 * xs.length + 1 := by
  unfold txI
  split
  · exact Nat.le_trans (show (Str.ofString "-").length ≤ 1 by decide) (by omega)
  · have h1 := join_len "." (xs.map evS)
    have h2 := sum_len h
    have h3 : Str.length (Str.ofString ".") = 1 := rfl
    rw [List.length_map, h3] at h1
    omega
theorem strI_num {i : Int} (h : 0 ≤ i) : Str.ofString (toString i) = numS i.toNat := by
  unfold numS
  rw [Int.toNat_of_nonneg h]
/-- a move in range -/
def MvOk (k lat : Int) (ln : Nat) (v : Mv) : Prop := (∀ i ∈ v.1, -2 ≤ i ∧ i < k) ∧ v.1.length ≤ ln ∧ 0 ≤ v.2 ∧ v.2 < lat
theorem lnS_len {k lat : Int} {ln : Nat} {v : Mv} (h : MvOk k lat ln v) (hk : k ≤ 100) (hl : lat ≤ 100) (h3 : ln ≤ 12) : (lnS v).length ≤ 40 := by
  obtain ⟨h1, h2, h4, h5⟩ := h
  have e := txI_len (xs := v.1) fun i m => ⟨(h1 i m).1, by have := (h1 i m).2; omega⟩
  have e2 := (numS_len (n := v.2.toNat) (by omega)).2
  unfold lnS
  rw [len_app, len_app, strI_num h4]
  have : Str.length (Str.ofString " ") = 1 := rfl
  omega
theorem lnS_low {k lat : Int} {ln : Nat} {v : Mv} (h : MvOk k lat ln v) : Low (lnS v) := by
  unfold lnS
  rw [strI_num h.2.2.1]
  exact ((low_txI fun i m => (h.1 i m).1).app (low_dec (by kernel_rfl))).app (low_num _)
theorem lnS_free {k lat : Int} {ln : Nat} {v : Mv} (h : MvOk k lat ln v) : Free 10 (lnS v) := by
  unfold lnS
  rw [strI_num h.2.2.1]
  exact free_app (free_app (free_txI (by decide) (by decide) (by decide) (by decide) (by decide) fun i m => (h.1 i m).1) (free_dec (by kernel_rfl))) (free_num (by decide))
theorem lnS_split {k lat : Int} {ln : Nat} {v : Mv} (h : MvOk k lat ln v) : Txt.split (lnS v) " " = [txI v.1, numS v.2.toNat] := by
  unfold lnS
  rw [strI_num h.2.2.1]
  exact split_two (free_txI (by decide) (by decide) (by decide) (by decide) (by decide) fun i m => (h.1 i m).1) (free_num (by decide))
theorem txI_dash {xs : List Int} (hne : xs ≠ []) (h : ∀ i ∈ xs, -2 ≤ i) : txI xs ≠ "-" := by
  intro e
  have m : (45 : Nat) ∈ tl (txI xs) := by rw [e]; decide
  unfold txI at m
  rw [if_neg hne, tl_jn] at m
  rcases mem_joinL m with m | ⟨l, hl, m⟩
  · exact absurd m (by decide)
  · rw [List.map_map] at hl
    obtain ⟨i, hm, rfl⟩ := List.mem_map.mp hl
    exact free_evS (by decide) (by decide) (by decide) (h i hm) m
theorem filterMap_ev {item : Str → Option Int} : ∀ {xs : List Int}, (∀ i ∈ xs, item (evS i) = some i) → (xs.map evS).filterMap item = xs ∧ ((xs.map evS).all fun w => (item w).isSome) = true
  | [], _ => ⟨rfl, rfl⟩
  | x :: xs, h => by
    obtain ⟨h1, h2⟩ := filterMap_ev fun i m => h i (List.mem_cons_of_mem x m)
    have e := h x (List.mem_cons_self ..)
    rw [List.map_cons, List.filterMap_cons, e, List.all_cons, e]
    exact ⟨by rw [h1], by rw [h2]; rfl⟩
theorem moveO_ln {item : Str → Option Int} {k most lat : Int} {ln : Nat} {v : Mv} (h : MvOk k lat ln v) (hm : lat ≤ most) (h100 : lat ≤ 100) (hi : ∀ i ∈ v.1, item (evS i) = some i) : moveO item most ln (lnS v) = some v := by
  obtain ⟨h1, h2, h4, h5⟩ := h
  unfold moveO
  rw [lnS_split ⟨h1, h2, h4, h5⟩]
  dsimp only
  rw [numO_num (by omega)]
  dsimp only
  rw [if_pos (by omega)]
  have e2 : ((v.2.toNat : Nat) : Int) = v.2 := by omega
  by_cases h0 : v.1 = []
  · have e : txI v.1 = "-" := by unfold txI; rw [if_pos h0]
    rw [if_pos e, e2]
    show some (([] : List Int), v.2) = some v
    rw [← h0]
  · rw [if_neg (txI_dash h0 fun i m => (h1 i m).1), split_dots h0 fun i m => (h1 i m).1]
    obtain ⟨f1, f2⟩ := filterMap_ev hi
    rw [if_pos ⟨f2, by rw [List.length_map]; exact h2⟩, f1, e2]
theorem getD_snoc (t : List (List Mv)) (p : List Mv) : (t ++ [p]).getD ((t ++ [p]).length - 1) [] = p := by
  rw [List.length_append, List.length_singleton, Nat.add_sub_cancel, List.getD_eq_getElem?_getD, List.getElem?_append_right (Nat.le_refl _), Nat.sub_self]
  rfl
theorem set_snoc (t : List (List Mv)) (p q : List Mv) : (t ++ [p]).set ((t ++ [p]).length - 1) q = t ++ [q] := by
  rw [List.length_append, List.length_singleton, Nat.add_sub_cancel, List.set_append_right _ _ (Nat.le_refl _), Nat.sub_self]
  rfl
section
variable {item : Str → Option Int} {k most lat : Int} {ln moves : Nat}
def RowOk (item : Str → Option Int) (k lat : Int) (ln moves : Nat) (r : List Mv) : Prop := r.length = moves ∧ ∀ v ∈ r, MvOk k lat ln v ∧ ∀ i ∈ v.1, item (evS i) = some i
theorem rdL_moves (hm : lat ≤ most) (h100 : lat ≤ 100) {t : List (List Mv)} {rest : List Str} : ∀ {r p : List Mv} {i : Nat}, p.length + r.length = moves → (∀ v ∈ r, MvOk k lat ln v ∧ ∀ i ∈ v.1, item (evS i) = some i) → rdL item most ln moves i (t ++ [p]) (r.map lnS ++ rest) = rdL item most ln moves (i + r.length) (t ++ [p ++ r]) rest
  | [], p, i, _, _ => by simp
  | v :: r, p, i, hl, h => by
    have hv := h v (List.mem_cons_self ..)
    rw [List.length_cons] at hl
    rw [List.map_cons, List.cons_append, rdL]
    have e : rdStep item most ln moves (t ++ [p]) (lnS v) = some (t ++ [p ++ [v]]) := by
      unfold rdStep
      rw [getD_snoc, if_neg (by simp; omega), moveO_ln hv.1 hm h100 hv.2]
      dsimp only
      rw [set_snoc]
    rw [e]
    dsimp only
    rw [rdL_moves hm h100 (p := p ++ [v]) (r := r) (i := i + 1) (by simp; omega) fun w m => h w (List.mem_cons_of_mem _ m), List.length_cons, List.append_assoc]
    congr 1
    omega
theorem rdL_rows (hm : lat ≤ most) (h100 : lat ≤ 100) {rest : List Str} : ∀ {rs t : List (List Mv)} {i : Nat}, (t = [] ∨ (t.getD (t.length - 1) []).length = moves) → (((t ++ rs).length : Nat) : Int) ≤ most → (∀ r ∈ rs, RowOk item k lat ln moves r) → ∃ j, rdL item most ln moves i t ((rs.map rowS).flatten ++ rest) = rdL item most ln moves j (t ++ rs) rest
  | [], t, i, _, _, _ => ⟨i, by simp⟩
  | r :: rs, t, i, h0, hl, h => by
    have hr := h r (List.mem_cons_self ..)
    rw [List.length_append, List.length_cons] at hl
    rw [List.map_cons, List.flatten_cons, List.append_assoc]
    have e1 : rowS r ++ ((rs.map rowS).flatten ++ rest) = Str.ofString "state" :: (r.map lnS ++ ((rs.map rowS).flatten ++ rest)) := rfl
    have e : rdStep item most ln moves t (Str.ofString "state") = some (t ++ [[]]) := by
      unfold rdStep
      rw [if_pos h0, if_pos ⟨rfl, by omega⟩]
    rw [e1, rdL, e]
    dsimp only
    rw [rdL_moves hm h100 (p := []) (by rw [List.length_nil, Nat.zero_add]; exact hr.1) hr.2, List.nil_append]
    obtain ⟨j, ej⟩ := rdL_rows hm h100 (rs := rs) (t := t ++ [r]) (i := i + 1 + r.length) (.inr (by rw [getD_snoc]; exact hr.1)) (by rw [List.append_assoc, List.length_append]; simp at hl ⊢; omega) fun q m => h q (List.mem_cons_of_mem _ m)
    exact ⟨j, by rw [ej, List.append_assoc]; rfl⟩
theorem maxF_lt {b : Int} : ∀ {ys : List Int} {y : Int}, y < b → (∀ z ∈ ys, z < b) → maxF y ys < b
  | [], y, h, _ => h
  | z :: ys, y, h, h2 => by
    have h1 := h2 z (List.mem_cons_self ..)
    show maxF (if y < z then z else y) ys < b
    exact maxF_lt (by split <;> assumption) fun x m => h2 x (List.mem_cons_of_mem _ m)
theorem readR_lines {word : Str} {m : Mch} (hl : lat = m.rows.length) (hm : lat ≤ most) (h100 : lat ≤ 100) (hne : m.rows ≠ []) (h : ∀ r ∈ m.rows, RowOk item k lat ln moves r) : readR item most ln moves (linesM word m) = .ok m.rows := by
  unfold readR linesM
  obtain ⟨j, ej⟩ := rdL_rows (rest := []) hm h100 (rs := m.rows) (t := []) (i := 1) (.inl rfl) (by simp; omega) h
  rw [List.append_nil, List.nil_append] at ej
  rw [show (headS word m :: (m.rows.map rowS).flatten).drop 1 = (m.rows.map rowS).flatten from rfl, ej]
  show (if m.rows = [] ∨ (m.rows.getD (m.rows.length - 1) []).length < moves ∨ (m.rows.length : Int) ≤ latF m.rows then Except.error _ else Except.ok m.rows) = _
  have hp := List.length_pos_iff.mpr hne
  have e1 : (m.rows.getD (m.rows.length - 1) []).length = moves := by
    refine (h _ ?_).1
    rw [List.getD_eq_getElem?_getD, List.getElem?_eq_getElem (by omega)]
    exact List.getElem_mem ..
  have e2 : latF m.rows < m.rows.length := by
    have hz : ∀ z ∈ m.rows.flatten.map (·.2), z < (m.rows.length : Int) := fun z hz => by
      obtain ⟨v, hv, rfl⟩ := List.mem_map.mp hz
      obtain ⟨r, hr, hv⟩ := List.mem_flatten.mp hv
      have := ((h r hr).2 v hv).1.2.2.2
      omega
    unfold latF
    generalize m.rows.flatten.map (·.2) = L at hz
    cases L with
    | nil =>
      show (0 : Int) < _
      omega
    | cons y ys => exact maxF_lt (hz y (List.mem_cons_self ..)) fun z m => hz z (List.mem_cons_of_mem _ m)
  rw [if_neg]
  rintro (z | z | z)
  · exact hne z
  · omega
  · omega
end
end Pu
set_option Elab.async false
set_option linter.all false
set_option maxRecDepth 100000
set_option maxHeartbeats 4000000
namespace Stp
open PySem L2
def top (i : Nat) : Stmt := PySem.Challenge.pw_stepsagain_k08_texts_of_machines.main.body.getD i (.Pass ⟨0, 0, 0, 0⟩)
abbrev sPen : Stmt := top 46
abbrev sNext : Stmt := top 47
abbrev sDraw : Stmt := top 48
section
variable {P : Program} {w : World} {K : PySem.W.Frag} {mg : Str → Option Value} {base : Heap}
theorem scP : FnScope ["_law_script"] ["_law_script"] (defScope sPen) := ⟨rfl, rfl, rfl, by decide +kernel, rfl, by decide +kernel, by decide +kernel⟩
theorem ok_pen {f : Addr} {fd : FuncData} (F : Fun K "_law_pen" "_law_pen" sPen f fd) (T : PenTxt mg) : FnOk P w K mg base CX0 1 f fd ["_law_script"] (spPen K) := by
  refine F.ok scP (fun vs H Q E h => ?_) (fun cdv A outer s H vs Q E hr h => ?_)
  · obtain ⟨a, ns, rfl, _⟩ := h
    rfl
  · obtain ⟨a, ns, rfl, hS, k⟩ := h
    refine ⟨_, pss_one (ps_ret (pe_lst (pa_cons (pe_callTy call_list_of (by rfl) T.list (by decide +kernel) (pa_cons (pe_slice sl_list (pv 0) po_none (po_some pe_int)) pa_nil)) (pa_cons pe_int (pa_cons pe_int pa_nil))))), ?_⟩
    refine ⟨_, rfl, _, rfl, _, _, rfl, hS, fun p1 n1 => ?_⟩
    refine ⟨_, _, rfl, .inl (SqL.of upd_same), fun p2 n2 => ?_⟩
    refine ⟨(by show 3 ≤ sizeLine; decide), fun p3 n3 => ?_⟩
    have d21 : p2 ≠ p1 := fun e => by rw [e, upd_same] at n2; cases n2
    have d32 : p3 ≠ p2 := fun e => by rw [e, upd_same] at n3; cases n3
    have h2 : H p2 = none := by rw [upd_ne d21] at n2; exact n2
    have h3' : upd H p1 (.lst (cutV (ns.map V.int) none (some 60))) p3 = none := by rw [upd_ne d32] at n3; exact n3
    have d31 : p3 ≠ p1 := fun e => by rw [e, upd_same] at h3'; cases h3'
    have h3 : H p3 = none := by rw [upd_ne d31] at h3'; exact h3'
    refine k _ p3 p2 (fun b o e => ?_) h3 h2 ⟨ns.take 60, 0, 0, ⟨upd_same, ?_, by decide⟩, by decide⟩
    · rw [upd_ne (ne_of_none e h3), upd_ne (ne_of_none e h2), upd_ne (ne_of_none e n1)]
      exact e
    · rw [upd_ne d32.symm, upd_same]
      congr 2
      simp only [cutV, HT.sIx_none]
      rw [show (some (60 : Int)) = some ((60 : Nat) : Int) from rfl, HT.sIx_nat]
      simp [List.map_take]
end
section
variable {P : Program} {w : World} {K : PySem.W.Frag} {mg : Str → Option Value} {base : Heap}
theorem scN : FnScope ["_law_pen_here", "_law_index", "_law_cell_here", "_law_some_here", "_law_more", "_law_top"] ["_law_pen_here"] (defScope sNext) := ⟨rfl, rfl, rfl, by decide +kernel, rfl, by decide +kernel, by decide +kernel⟩
theorem ok_next {f : Addr} {fd : FuncData} (F : Fun K "_law_next" "_law_next" sNext f fd) (T : PenTxt mg) : FnOk P w K mg base CX0 1 f fd ["_law_pen_here"] spNext := by
  refine F.ok scN (fun vs H Q E h => ?_) (fun cdv A outer s H vs Q E hr h => ?_)
  · obtain ⟨p, c, cs, i, r, rfl, _⟩ := h
    rfl
  · obtain ⟨p, c, cs, i, r, rfl, PI, hi, k⟩ := h
    refine ⟨_, 
      pss_cons (ps_set (i := 1) scN.nd rfl (Or.inl rfl) (pe_ix ix_list (pv 0) pe_int (fun _ _ => rfl)))
      (pss_cons (ps_asg (pe_op op_add (pv 1) pe_int) (pg_sub (pv 0) pe_int set_list))
      (pss_cons (ps_set (i := 2) scN.nd rfl (Or.inl rfl) (pe_op op_add (pe_op op_mul (pv 1) pe_int) pe_int))
      (pss_cons (ps_if (pt_cmpR (op_neD hr.units) (pe_ix ix_list (pv 0) pe_int (fun _ _ => rfl)) (pe_lst pa_nil) (nomark _))
        (pss_one (ps_set (i := 2) scN.nd rfl (Or.inl rfl) (pe_ix ix_list (pe_ix ix_list (pv 0) pe_int (fun _ _ => rfl)) (pe_op op_mod (pe_callTy call_int1 (by rfl) T.int (by decide +kernel) (pa_cons (pv 1) pa_nil)) (pe_callB call_len_seq (by rfl) T.len PySem.boot_len (pa_cons (pe_ix ix_list (pv 0) pe_int (fun _ _ => rfl)) pa_nil))) (fun _ _ => rfl)))) pss_nil)
      (pss_cons (ps_if (PW.pt (pw_and (pt_cmpR op_lt (pv 1) (pe_callB call_len_seq (by rfl) T.len PySem.boot_len (pa_cons (pe_ix ix_list (pv 0) pe_int (fun _ _ => rfl)) pa_nil)) (nomark _)) (pw_and1 (pt_cmpR op_ge (pv 2) (pe_op op_pow pe_int pe_int) (nomark _))))) (pss_one (ps_ret (pv 2))) pss_nil)
      (pss_cons (ps_set (i := 3) scN.nd rfl (Or.inl rfl) (pe_op op_mod (pe_callTy call_int1 (by rfl) T.int (by decide +kernel) (pa_cons (pe_op op_add (pe_op op_add (pe_op op_mod (pe_callTy call_int1 (by rfl) T.int (by decide +kernel) (pa_cons (pv 2) pa_nil)) pe_int) (pe_op op_mul (pv 1) pe_int)) pe_int) pa_nil)) pe_int))
      (pss_cons (ps_set (i := 4) scN.nd rfl (Or.inl rfl) (pe_op op_mod (pe_callTy call_int1 (by rfl) T.int (by decide +kernel) (pa_cons (pe_op op_add (pe_op op_add (pe_op op_mul (pv 3) (pv 3)) (pe_op op_mul (pv 1) pe_int)) pe_int) pa_nil)) pe_int))
      (pss_cons (ps_set (i := 5) scN.nd rfl (Or.inl rfl) (pe_op op_mod (pe_callTy call_int1 (by rfl) T.int (by decide +kernel) (pa_cons (pe_op op_add (pe_op op_add (pe_op op_mul (pv 4) (pv 4)) (pv 3)) (pe_op op_mul (pe_op op_mul (pv 1) (pv 1)) pe_int)) pa_nil)) pe_int))
      (pss_one (ps_ret (pe_op op_add (pe_op op_mul (pe_op op_add (pe_op op_mul (pv 5) pe_int) (pv 4)) pe_int) (pv 3))))))))))), ?_⟩
    have ncp := PI.ne
    refine ⟨_, rfl, _, _, _, _, rfl, rfl, SqL.of PI.pen, rfl, ?_⟩
    -- _law_pen_here[1] = _law_index + 1
    refine ⟨_, rfl, _, _, rfl, rfl, _, rfl, _, _, _, 1, rfl, rfl, PI.pen, rfl, ?_⟩
    generalize eH : upd H p _ = H1
    have hp1 : H1 p = some (.lst [.ref c, .int ((i + 1 : Nat) : Int), .int r]) := by
      rw [← eH, upd_same]; rfl
    have hc1 : H1 c = some (.lst (cs.map V.int)) := by rw [← eH, upd_ne ncp]; exact PI.cells
    have b1 : But p H H1 := fun b o n e => by rw [← eH, upd_ne n]; exact e
    -- cell = index * 1061 + 59
    refine ⟨_, rfl, _, _, rfl, rfl, .inr ⟨by decide, by decide⟩, _, _, rfl, rfl, ?_⟩
    -- the rest, for any cell
    have fin : ∀ (cell : Int) (H2 : Hp), But p H H2 → H2 p = some (.lst [.ref c, .int ((i + 1 : Nat) : Int), .int r]) → H2 c = some (.lst (cs.map V.int)) → True := fun _ _ _ _ _ => trivial
    -- if pen[0] != []
    refine ⟨_, rfl, _, _, _, _, rfl, rfl, SqL.of hp1, rfl, Nat.zero_le _, fun l hl => ?_⟩
    generalize eH2 : upd H1 l _ = H2
    have s12 : Same H1 H2 := fun b o e => by rw [← eH2, upd_ne (ne_of_none e hl)]; exact e
    have hl2 : H2 l = some (.lst []) := by rw [← eH2]; exact upd_same
    have hp2 := s12 _ _ hp1
    have hc2 := s12 _ _ hc1
    have b2 : But p H H2 := b1.trans (Same.but s12)
    refine ⟨_, _, .lst (SqL.of hc2) (dp_ints cs), .lst (SqL.of hl2) .nil, (shp_ints cs).ok (by decide), (Shp.list (n := 0) (fun d m => by cases m)).ok (by decide), _, rfl, ?_⟩
    rw [eqv_ints_nil]
    have hlen : ((cs.map V.int).length : Int) = (cs.length : Int) := by rw [List.length_map]
    have hm : ∀ m : Int, 0 < m → ∀ x : Int, 0 ≤ x % m ∧ x % m < m := fun m h x => ⟨Int.emod_nonneg _ (Int.ne_of_gt h), Int.emod_lt_of_pos _ h⟩
    refine ite2 (fun hne => ?a) (fun he => ?b)
    case' a =>
      have hcs : 0 < cs.length := by
        cases cs with
        | nil => simp at hne
        | cons a l => simp
      -- cell = pen[0][int(index) % len(pen[0])]
      refine ⟨_, rfl, _, _, _, _, rfl, rfl, SqL.of hp2, rfl, _, rfl, .inl ⟨_, rfl, ?_⟩⟩
      refine ⟨_, rfl, _, _, _, _, rfl, rfl, SqL.of hp2, rfl, c, _, rfl, .inl (SqL.of hc2), ?_⟩
      refine ⟨_, _, rfl, rfl, (by rw [hlen]; omega), ?_⟩
      rw [hlen]
      have hb := hm (cs.length : Int) (by omega) (i : Int)
      obtain ⟨j, hj⟩ := Int.eq_ofNat_of_zero_le hb.1
      have hjl : j < cs.length := by omega
      refine ⟨c, _, _, .int cs[j], rfl, rfl, SqL.of hc2, by rw [hj]; exact atI_nat (by rw [List.getElem?_map, List.getElem?_eq_getElem hjl]; rfl), ?_⟩
      generalize cs[j] = cell
    all_goals
      refine ⟨_, rfl, _, rfl, _, _, _, _, rfl, rfl, SqL.of hp2, rfl, c, _, rfl, .inl (SqL.of hc2), _, _, rfl, rfl, _, rfl, ?_⟩
      have fin : ∀ v : Int, 0 ≤ v → Q (.int v) H2 := fun v hv => k H2 v b2 ⟨hp2, hc2, PI.pos⟩ hv
      refine ite2 (fun h1 => ?_) (fun h1 => ?_)
      · refine ⟨_, rfl, _, _, rfl, rfl, ⟨by decide, by decide, by decide⟩, _, _, rfl, rfl, _, rfl, ?_⟩
        refine ite2 (fun h2 => ?_) (fun h2 => ?_)
        · refine ⟨_, rfl, fin _ ?_⟩
          have h3 := of_decide_eq_true h2
          rw [show (10 : Int) ^ (18 : Int).toNat = 1000000000000000000 by decide] at h3
          omega
        · refine ⟨_, rfl, .inl ⟨_, rfl, _, _, rfl, rfl, (by show (0 : Int) < 2147483587; decide), _, rfl, _, _, rfl, rfl, .inr ⟨by decide, by decide⟩, _, _, rfl, rfl, _, _, rfl, rfl, .inl ⟨_, rfl, _, _, rfl, rfl, (by show (0 : Int) < 2147483587; decide), ?_⟩⟩⟩
          refine ⟨_, rfl, _, rfl, _, _, rfl, rfl, .inl ⟨by omega, by omega⟩, _, rfl, _, _, rfl, rfl, .inr ⟨by decide, by decide⟩, _, _, rfl, rfl, _, _, rfl, rfl, .inl ⟨_, rfl, _, _, rfl, rfl, (by show (0 : Int) < 2147483563; decide), ?_⟩⟩
          refine ⟨_, rfl, _, rfl, _, _, rfl, rfl, .inl ⟨by omega, by omega⟩, _, rfl, _, _, rfl, rfl, _, rfl, _, rfl, _, _, rfl, rfl, .inl ⟨by omega, by omega⟩, _, _, rfl, rfl, .inr ⟨by decide, by decide⟩, _, _, rfl, rfl, .inl ⟨_, rfl, _, _, rfl, rfl, (by show (0 : Int) < 2147483549; decide), ?_⟩⟩
          refine ⟨_, rfl, _, _, rfl, rfl, .inr ⟨by decide, by decide⟩, _, rfl, _, _, rfl, rfl, _, _, rfl, rfl, .inr ⟨by decide, by decide⟩, _, rfl, _, _, rfl, rfl, fin _ ?_⟩
          show (0 : Int) ≤ _
          omega
      · refine ⟨_, rfl, .inl ⟨_, rfl, _, _, rfl, rfl, (by show (0 : Int) < 2147483587; decide), _, rfl, _, _, rfl, rfl, .inr ⟨by decide, by decide⟩, _, _, rfl, rfl, _, _, rfl, rfl, .inl ⟨_, rfl, _, _, rfl, rfl, (by show (0 : Int) < 2147483587; decide), ?_⟩⟩⟩
        refine ⟨_, rfl, _, rfl, _, _, rfl, rfl, .inl ⟨by omega, by omega⟩, _, rfl, _, _, rfl, rfl, .inr ⟨by decide, by decide⟩, _, _, rfl, rfl, _, _, rfl, rfl, .inl ⟨_, rfl, _, _, rfl, rfl, (by show (0 : Int) < 2147483563; decide), ?_⟩⟩
        refine ⟨_, rfl, _, rfl, _, _, rfl, rfl, .inl ⟨by omega, by omega⟩, _, rfl, _, _, rfl, rfl, _, rfl, _, rfl, _, _, rfl, rfl, .inl ⟨by omega, by omega⟩, _, _, rfl, rfl, .inr ⟨by decide, by decide⟩, _, _, rfl, rfl, .inl ⟨_, rfl, _, _, rfl, rfl, (by show (0 : Int) < 2147483549; decide), ?_⟩⟩
        refine ⟨_, rfl, _, _, rfl, rfl, .inr ⟨by decide, by decide⟩, _, rfl, _, _, rfl, rfl, _, _, rfl, rfl, .inr ⟨by decide, by decide⟩, _, rfl, _, _, rfl, rfl, fin _ ?_⟩
        show (0 : Int) ≤ _
        omega
end
section
variable {P : Program} {w : World} {K : PySem.W.Frag} {mg : Str → Option Value} {base : Heap}
theorem scD : FnScope ["_law_pen_here", "_law_under", "_law_digit"] ["_law_pen_here", "_law_under"] (defScope sDraw) := ⟨rfl, rfl, rfl, by decide +kernel, rfl, by decide +kernel, by decide +kernel⟩
theorem ok_draw {f fN : Addr} {fd fdN : FuncData} (F : Fun K "_law_draw" "_law_draw" sDraw f fd) (T : PenTxt mg) (FN : Fun K "_law_next" "_law_next" sNext fN fdN) (mN : mg "_law_next" = some (.ref fN)) (bN : Binds K fdN ["_law_pen_here"] []) : FnOk P w K mg base CX0 2 f fd ["_law_pen_here", "_law_under"] spDraw := by
  have GN : FnOk P w K mg base CX0 1 fN fdN ["_law_pen_here"] spNext := ok_next FN T
  refine F.ok scD (fun vs H Q E h => ?_) (fun cdv A outer s H vs Q E hr h => ?_)
  · obtain ⟨p, c, u, n, rfl, _⟩ := h
    rfl
  · obtain ⟨p, c, u, n, rfl, ⟨cs, i, r, PI, hin⟩, hn, hu0, hu1, k⟩ := h
    refine ⟨_,
      pss_cons (ps_if (pt_cmpR op_lt (pe_ix ix_list (pv 0) pe_int (fun _ _ => rfl)) (pv 1) (nomark _))
        (pss_one (ps_asg (pe_call GN hr rfl mN FN.kp bN .nil pass0 (pa_cons (pv 0) pa_nil)) (pg_sub (pv 0) pe_int set_list))) pss_nil)
      (pss_cons (ps_set (i := 2) scD.nd rfl (Or.inl rfl) (pe_op op_mod (pe_callTy call_int1 (by rfl) T.int (by decide +kernel) (pa_cons (pe_ix ix_list (pv 0) pe_int (fun _ _ => rfl)) pa_nil)) (pv 1)))
      (pss_cons (ps_asg (pe_op op_fdiv (pe_ix ix_list (pv 0) pe_int (fun _ _ => rfl)) (pv 1)) (pg_sub (pv 0) pe_int set_list))
      (pss_one (ps_ret (pv 2))))), ?_⟩
    refine ⟨_, rfl, _, _, _, _, rfl, rfl, SqL.of PI.pen, rfl, _, rfl, _, _, rfl, rfl, _, rfl, ?_⟩
    refine ite2 (fun h1 => ?a) (fun h1 => ?b)
    case' a =>
      refine ⟨_, rfl, p, c, cs, i, r, rfl, PI, by omega, fun H1 v b1 PI1 hv => ?_⟩
      refine ⟨_, rfl, _, _, _, 2, rfl, rfl, PI1.pen, rfl, ?_⟩
      generalize eH : upd H1 p _ = H2
      have PI2 : PenIs H2 p c cs (i + 1) v := ⟨by rw [← eH, upd_same]; rfl, by rw [← eH, upd_ne PI1.ne]; exact PI1.cells, hv⟩
      have b2 : But p H H2 := by rw [← eH]; exact b1.upd
    case' b =>
      have PI2 : PenIs H p c cs i r := PI
      have b2 : But p H H := But.refl p H
    all_goals
      refine ⟨_, rfl, _, _, _, _, rfl, rfl, SqL.of PI2.pen, rfl, .inl ⟨_, rfl, _, rfl, _, _, rfl, rfl, hu0, ?_⟩⟩
      refine ⟨_, rfl, _, _, _, _, rfl, rfl, SqL.of PI2.pen, rfl, _, rfl, _, _, rfl, rfl, ⟨hu0, hu1⟩, _, rfl, _, _, _, 2, rfl, rfl, PI2.pen, rfl, ?_⟩
      refine ⟨_, rfl, ?_⟩
      refine k _ _ b2.upd ⟨cs, _, _, ⟨upd_same, by rw [upd_ne PI2.ne]; exact PI2.cells, Int.ediv_nonneg PI2.pos (by omega)⟩, by omega⟩ (Int.emod_nonneg _ (by omega)) (Int.emod_lt_of_pos _ hu0)
end
end Stp
set_option Elab.async false
set_option linter.all false
set_option maxRecDepth 100000
set_option maxHeartbeats 4000000
namespace Gx
open PySem L2 Stp NdefX LamX Pu
open PyProof.Rows hiding St
def LT : Nat → Option LamD := fun i => ([(1, l_1), (2, l_2), (3, l_3), (4, l_4)] : List (Nat × LamD)).lookup i
structure Fx (P : Program) (w : World) (K : PySem.W.Frag) (mg : Str → Option Value) (base : Heap) (G : GC) (f cd tb : Nat → Addr) (fd : Nat → FuncData) : Prop where
  hk : K = G.K
  hN : G.hN = fun k => k.hash w
  TF : TyF G
  TB : TbF G kTb
  gf : GF G LT
  F_8 : Fun K "is_integer" "is_integer" (top 8) (f 8) (fd 8)
  b_8 : L2.Binds K (fd 8) ["thing"] []
  g_8 : mg "is_integer" = some (.ref (f 8))
  n_isinstance : mg "isinstance" = none
  n_bool : mg "bool" = none
  n_int : mg "int" = none
  F_9 : Fun K "is_below" "is_below" (top 9) (f 9) (fd 9)
  b_9 : L2.Binds K (fd 9) ["thing", "count"] []
  g_9 : mg "is_below" = some (.ref (f 9))
  F_10 : Fun K "is_word" "is_word" (top 10) (f 10) (fd 10)
  b_10 : L2.Binds K (fd 10) ["thing", "signs"] []
  g_10 : mg "is_word" = some (.ref (f 10))
  n_all : mg "all" = none
  n_len : mg "len" = none
  k_MAX_WORD : ∃ t, mg "MAX_WORD" = some (.int (12) t)
  n_tuple : mg "tuple" = none
  F_20 : Fun K "are_numbers" "are_numbers" (top 20) (f 20) (fd 20)
  b_20 : L2.Binds K (fd 20) ["signs", "data"] []
  g_20 : mg "are_numbers" = some (.ref (f 20))
  k_MAX_DATA : ∃ t, mg "MAX_DATA" = some (.int (6) t)
  k_MIN_SIGNS : ∃ t, mg "MIN_SIGNS" = some (.int (2) t)
  k_MAX_SIGNS : ∃ t, mg "MAX_SIGNS" = some (.int (6) t)
  F_21 : Fun K "are_events" "are_events" (top 21) (f 21) (fd 21)
  b_21 : L2.Binds K (fd 21) ["thing", "data"] []
  g_21 : mg "are_events" = some (.ref (f 21))
  k_MAX_EVENTS : ∃ t, mg "MAX_EVENTS" = some (.int (8) t)
  k_DROP : ∃ t, mg "DROP" = some (.int (-2) t)
  F_22 : Fun K "is_move" "is_move" (top 22) (f 22) (fd 22)
  b_22 : L2.Binds K (fd 22) ["thing", "fits", "states"] []
  g_22 : mg "is_move" = some (.ref (f 22))
  F_23 : Fun K "is_row" "is_row" (top 23) (f 23) (fd 23)
  b_23 : L2.Binds K (fd 23) ["thing", "fits", "moves", "states"] []
  g_23 : mg "is_row" = some (.ref (f 23))
  n_list : mg "list" = none
  F_24 : Fun K "are_rows" "are_rows" (top 24) (f 24) (fd 24)
  b_24 : L2.Binds K (fd 24) ["thing", "fits", "moves", "most"] []
  g_24 : mg "are_rows" = some (.ref (f 24))
  F_32 : Fun K "joined" "joined" (top 32) (f 32) (fd 32)
  b_32 : L2.Binds K (fd 32) ["items"] []
  g_32 : mg "joined" = some (.ref (f 32))
  k_EVENTS : WDict G mg "EVENTS" (mdD [(-1, "e"), (-2, "d")])
  n_str : mg "str" = none
  k_EMPTY : ∃ t, mg "EMPTY" = some (.str "-" t)
  F_25003 : Fun K "rows" "Machine.rows" ((C8.clsBody (top 25)).getD 3 (.Pass ⟨0, 0, 0, 0⟩)) (f 25003) (fd 25003)
  b_25003 : L2.Binds K (fd 25003) ["self"] []
  g_25 : mg "Machine" = some (.ref (f 25))
  a_25 : G.cA 0 = some (f 25)
  g_26 : mg "Writer" = some (.ref (f 26))
  a_26 : G.cA 1 = some (f 26)
  g_27 : mg "Reader" = some (.ref (f 27))
  a_27 : G.cA 2 = some (f 27)
  g_39 : mg "Kind" = some (.ref (f 39))
  a_39 : G.cA 3 = some (f 39)
  fl_table : ∀ c ∈ [0, 1, 2, 3], ∀ A, G.cA c = some A → Cls G.K A ∧ NoAttr G.K A "table"
  F_25001 : Fun K "signs" "Machine.signs" ((C8.clsBody (top 25)).getD 1 (.Pass ⟨0, 0, 0, 0⟩)) (f 25001) (fd 25001)
  b_25001 : L2.Binds K (fd 25001) ["self"] []
  fl_letters : ∀ c ∈ [0, 1, 2, 3], ∀ A, G.cA c = some A → Cls G.K A ∧ NoAttr G.K A "letters"
  F_25002 : Fun K "data" "Machine.data" ((C8.clsBody (top 25)).getD 2 (.Pass ⟨0, 0, 0, 0⟩)) (f 25002) (fd 25002)
  b_25002 : L2.Binds K (fd 25002) ["self"] []
  fl_kinds : ∀ c ∈ [0, 1, 2, 3], ∀ A, G.cA c = some A → Cls G.K A ∧ NoAttr G.K A "kinds"
  F_33 : Fun K "format_machine" "format_machine" (top 33) (f 33) (fd 33)
  b_33 : L2.Binds K (fd 33) ["word", "machine"] []
  g_33 : mg "format_machine" = some (.ref (f 33))
  p_data : ∀ c ∈ [0, 1, 2], ∀ A, G.cA c = some A → Cls G.K A ∧ ∃ p, PropOf G.K A "data" p (f 25002)
  p_signs : ∀ c ∈ [0, 1, 2], ∀ A, G.cA c = some A → Cls G.K A ∧ ∃ p, PropOf G.K A "signs" p (f 25001)
  p_rows : ∀ c ∈ [0, 1, 2], ∀ A, G.cA c = some A → Cls G.K A ∧ ∃ p, PropOf G.K A "rows" p (f 25003)
  F_34 : Fun K "format_writer" "format_writer" (top 34) (f 34) (fd 34)
  b_34 : L2.Binds K (fd 34) ["writer"] []
  g_34 : mg "format_writer" = some (.ref (f 34))
  F_35 : Fun K "format_reader" "format_reader" (top 35) (f 35) (fd 35)
  b_35 : L2.Binds K (fd 35) ["reader"] []
  g_35 : mg "format_reader" = some (.ref (f 35))
  F_36 : Fun K "integer_of" "integer_of" (top 36) (f 36) (fd 36)
  b_36 : L2.Binds K (fd 36) ["word"] []
  g_36 : mg "integer_of" = some (.ref (f 36))
  k_FIGURES : ∃ t, mg "FIGURES" = some (.str "0123456789" t)
  F_37 : Fun K "item_of" "item_of" (top 37) (f 37) (fd 37)
  b_37 : L2.Binds K (fd 37) ["word", "count"] []
  g_37 : mg "item_of" = some (.ref (f 37))
  F_38 : Fun K "event_of" "event_of" (top 38) (f 38) (fd 38)
  b_38 : L2.Binds K (fd 38) ["word", "data"] []
  g_38 : mg "event_of" = some (.ref (f 38))
  F_40 : Fun K "first_numbers" "first_numbers" (top 40) (f 40) (fd 40)
  b_40 : L2.Binds K (fd 40) ["lines", "word"] []
  g_40 : mg "first_numbers" = some (.ref (f 40))
  F_39001 : Fun K "move_of" "Kind.move_of" ((C8.clsBody (top 39)).getD 1 (.Pass ⟨0, 0, 0, 0⟩)) (f 39001) (fd 39001)
  b_39001 : L2.Binds K (fd 39001) ["self", "line"] []
  fl_most : ∀ c ∈ [0, 1, 2, 3], ∀ A, G.cA c = some A → Cls G.K A ∧ NoAttr G.K A "most"
  fl_items_of : ∀ c ∈ [0, 1, 2, 3], ∀ A, G.cA c = some A → Cls G.K A ∧ NoAttr G.K A "items_of"
  fl_longest : ∀ c ∈ [0, 1, 2, 3], ∀ A, G.cA c = some A → Cls G.K A ∧ NoAttr G.K A "longest"
  F_41 : Fun K "read_rows" "read_rows" (top 41) (f 41) (fd 41)
  b_41 : L2.Binds K (fd 41) ["lines", "kind"] []
  g_41 : mg "read_rows" = some (.ref (f 41))
  n_enumerate : mg "enumerate" = none
  fl_moves : ∀ c ∈ [0, 1, 2, 3], ∀ A, G.cA c = some A → Cls G.K A ∧ NoAttr G.K A "moves"
  m_39_move_of : Cls K (f 39) ∧ Meth K (f 39) "move_of" (f 39001)
  n_max : mg "max" = none
  F_42 : Fun K "lines_of" "lines_of" (top 42) (f 42) (fd 42)
  b_42 : L2.Binds K (fd 42) ["text"] []
  g_42 : mg "lines_of" = some (.ref (f 42))
  F_39000 : Fun K "__init__" "Kind.__init__" ((C8.clsBody (top 39)).getD 0 (.Pass ⟨0, 0, 0, 0⟩)) (f 39000) (fd 39000)
  b_39000 : L2.Binds K (fd 39000) ["self", "word", "moves", "most", "items", "longest"] []
  fl_word : ∀ c ∈ [0, 1, 2, 3], ∀ A, G.cA c = some A → Cls G.K A ∧ NoAttr G.K A "word"
  F_25000 : Fun K "__init__" "Machine.__init__" ((C8.clsBody (top 25)).getD 0 (.Pass ⟨0, 0, 0, 0⟩)) (f 25000) (fd 25000)
  b_25000 : L2.Binds K (fd 25000) ["self", "signs", "data", "rows"] []
  F_26000 : Fun K "__init__" "Writer.__init__" ((C8.clsBody (top 26)).getD 0 (.Pass ⟨0, 0, 0, 0⟩)) (f 26000) (fd 26000)
  b_26000 : L2.Binds K (fd 26000) ["self", "signs", "data", "rows"] []
  hc_26000 : (fd 26000).code = .ref (cd 26000)
  TB_26000 : TabB base mg (cd 26000) (tb 26000)
  tm_26000 : (tb 26000, nm_26000) ∈ G.T
  tu_26000 : ∀ p ∈ G.T, p.1 = tb 26000 → p.2 = nm_26000
  g_4 : mg "InvalidWriter" = some (.ref (f 4))
  a_4 : G.cA 102 = some (f 4)
  r_4 : RaiC G.K He.veBase "ValueError.__new__" (f 4)
  k_MAX_WRITER : ∃ t, mg "MAX_WRITER" = some (.int (24) t)
  cr_25 : ClX.CRead K (f 25) (.type "type") ∧ PySem.W.findCls K (.ref (f 25)) (.type "type") "__init__" = some (.val (.ref (f 25000))) ∧ PySem.W.keepIn K (.ref (f 25000)) = true
  F_43 : Fun K "parse_writer" "parse_writer" (top 43) (f 43) (fd 43)
  b_43 : L2.Binds K (fd 43) ["text"] []
  g_43 : mg "parse_writer" = some (.ref (f 43))
  hc_43 : (fd 43).code = .ref (cd 43)
  TB_43 : TabB base mg (cd 43) (tb 43)
  tm_43 : (tb 43, nm_43) ∈ G.T
  tu_43 : ∀ p ∈ G.T, p.1 = tb 43 → p.2 = nm_43
  mk_39 : Mk K (f 39) (f 39000)
  mk_26 : Mk K (f 26) (f 26000)
  F_27000 : Fun K "__init__" "Reader.__init__" ((C8.clsBody (top 27)).getD 0 (.Pass ⟨0, 0, 0, 0⟩)) (f 27000) (fd 27000)
  b_27000 : L2.Binds K (fd 27000) ["self", "signs", "data", "rows"] []
  hc_27000 : (fd 27000).code = .ref (cd 27000)
  TB_27000 : TabB base mg (cd 27000) (tb 27000)
  tm_27000 : (tb 27000, nm_27000) ∈ G.T
  tu_27000 : ∀ p ∈ G.T, p.1 = tb 27000 → p.2 = nm_27000
  g_5 : mg "InvalidReader" = some (.ref (f 5))
  a_5 : G.cA 103 = some (f 5)
  r_5 : RaiC G.K He.veBase "ValueError.__new__" (f 5)
  k_MAX_READER : ∃ t, mg "MAX_READER" = some (.int (40) t)
  F_44 : Fun K "parse_reader" "parse_reader" (top 44) (f 44) (fd 44)
  b_44 : L2.Binds K (fd 44) ["text"] []
  g_44 : mg "parse_reader" = some (.ref (f 44))
  hc_44 : (fd 44).code = .ref (cd 44)
  TB_44 : TabB base mg (cd 44) (tb 44)
  tm_44 : (tb 44, nm_44) ∈ G.T
  tu_44 : ∀ p ∈ G.T, p.1 = tb 44 → p.2 = nm_44
  mk_27 : Mk K (f 27) (f 27000)
  F_50 : Fun K "_law_word" "_law_word" (top 50) (f 50) (fd 50)
  b_50 : L2.Binds K (fd 50) ["_law_pen_here", "_law_many", "_law_most"] []
  g_50 : mg "_law_word" = some (.ref (f 50))
  n_range : mg "range" = none
  F_48 : Fun K "_law_draw" "_law_draw" (top 48) (f 48) (fd 48)
  b_48 : L2.Binds K (fd 48) ["_law_pen_here", "_law_under"] []
  g_48 : mg "_law_draw" = some (.ref (f 48))
  F_51 : Fun K "_law_told_some" "_law_told_some" (top 51) (f 51) (fd 51)
  b_51 : L2.Binds K (fd 51) ["_law_pen_here", "_law_kinds", "_law_most"] []
  g_51 : mg "_law_told_some" = some (.ref (f 51))
  F_52 : Fun K "_law_writer" "_law_writer" (top 52) (f 52) (fd 52)
  b_52 : L2.Binds K (fd 52) ["_law_pen_here", "_law_many", "_law_kinds", "_law_most", "_law_longest_word"] []
  g_52 : mg "_law_writer" = some (.ref (f 52))
  F_53 : Fun K "_law_reader" "_law_reader" (top 53) (f 53) (fd 53)
  b_53 : L2.Binds K (fd 53) ["_law_pen_here", "_law_many", "_law_kinds", "_law_most", "_law_most_told"] []
  g_53 : mg "_law_reader" = some (.ref (f 53))
  F_54 : Fun K "_law_writer_of" "_law_writer_of" (top 54) (f 54) (fd 54)
  b_54 : L2.Binds K (fd 54) ["_law_machine_here"] []
  g_54 : mg "_law_writer_of" = some (.ref (f 54))
  F_55 : Fun K "_law_reader_of" "_law_reader_of" (top 55) (f 55) (fd 55)
  b_55 : L2.Binds K (fd 55) ["_law_machine_here"] []
  g_55 : mg "_law_reader_of" = some (.ref (f 55))
  F_56 : Fun K "_law_machine" "_law_machine" (top 56) (f 56) (fd 56)
  b_56 : L2.Binds K (fd 56) ["_law_pen_here", "_law_most"] []
  g_56 : mg "_law_machine" = some (.ref (f 56))
  F_57 : Fun K "_law_made" "_law_made" (top 57) (f 57) (fd 57)
  b_57 : L2.Binds K (fd 57) ["_law_machine_here", "_law_is_writer"] []
  g_57 : mg "_law_made" = some (.ref (f 57))
  F_58 : Fun K "_law_items" "_law_items" (top 58) (f 58) (fd 58)
  b_58 : L2.Binds K (fd 58) ["_law_items_here"] []
  g_58 : mg "_law_items" = some (.ref (f 58))
  F_59 : Fun K "_law_lines" "_law_lines" (top 59) (f 59) (fd 59)
  b_59 : L2.Binds K (fd 59) ["_law_machine_here", "_law_is_writer"] []
  g_59 : mg "_law_lines" = some (.ref (f 59))
  F_26004 : Fun K "__eq__" "Writer.__eq__" ((C8.clsBody (top 26)).getD 4 (.Pass ⟨0, 0, 0, 0⟩)) (f 26004) (fd 26004)
  b_26004 : L2.Binds K (fd 26004) ["self", "other"] []
  F_27004 : Fun K "__eq__" "Reader.__eq__" ((C8.clsBody (top 27)).getD 4 (.Pass ⟨0, 0, 0, 0⟩)) (f 27004) (fd 27004)
  b_27004 : L2.Binds K (fd 27004) ["self", "other"] []
  F_60 : Fun K "law" "law" (top 60) (f 60) (fd 60)
  b_60 : L2.Binds K (fd 60) ["_law_script"] []
  g_60 : mg "law" = some (.ref (f 60))
  F_46 : Fun K "_law_pen" "_law_pen" (top 46) (f 46) (fd 46)
  b_46 : L2.Binds K (fd 46) ["_law_script"] []
  g_46 : mg "_law_pen" = some (.ref (f 46))
  n_repr : mg "repr" = none
  e_27 : EqC G (f 27) (f 27004) eTys
  e_26 : EqC G (f 26) (f 26004) eTys
  F_47 : Fun K "_law_next" "_law_next" (top 47) (f 47) (fd 47)
  b_47 : L2.Binds K (fd 47) ["_law_pen_here"] []
  g_47 : mg "_law_next" = some (.ref (f 47))
  TP : Stp.PenTxt mg
def c_48 : { m : List D → T D // ∀ {P : Program} {w : World} {K : PySem.W.Frag} {mg : Str → Option Value} {base : Heap} {G : GC} {f cd tb : Nat → Addr} {fd : Nat → FuncData}, Fx P w K mg base G f cd tb fd → FnOk P w K mg base (L2.CX P w) 2 (f 48) (fd 48) ["_law_pen_here", "_law_under"] (spM G 2 m) } :=
  ⟨drawF, fun {_ _ _ _ _ _ _ _ _ _} T => fn_draw (fn_cx (Stp.ok_draw T.F_48 T.TP T.F_47 T.g_47 T.b_47))⟩
abbrev N_8 : List Str := ["thing"]
theorem sc_8 : FnScope N_8 ["thing"] (defScope s_8) := ⟨rfl, rfl, rfl, by decide +kernel, rfl, by decide +kernel, by decide +kernel⟩
def c_8 : { m : List D → T D // ∀ {P : Program} {w : World} {K : PySem.W.Frag} {mg : Str → Option Value} {base : Heap} {G : GC} {f cd tb : Nat → Addr} {fd : Nat → FuncData}, Fx P w K mg base G f cd tb fd → FnOk P w K mg base (L2.CX P w) 1 (f 8) (fd 8) ["thing"] (spM G 1 m) } :=
  ⟨_, fun {_ _ _ _ _ _ _ _ _ _} T => fn_ok (N := N_8) T.F_8 sc_8 fun cdv A outer s H E hr => (ss_one (st_ret (s_and (s_isi T.hk T.TF T.TB rfl T.n_isinstance (a_cons (s_var 0) (a_cons (s_ty (T := "int") rfl T.n_int (by decide +kernel)) a_nil))) (s_one (s_not (s_isi T.hk T.TF T.TB rfl T.n_isinstance (a_cons (s_var 0) (a_cons (s_ty (T := "bool") rfl T.n_bool (by decide +kernel)) a_nil))))))))⟩
abbrev N_9 : List Str := ["thing", "count"]
theorem sc_9 : FnScope N_9 ["thing", "count"] (defScope s_9) := ⟨rfl, rfl, rfl, by decide +kernel, rfl, by decide +kernel, by decide +kernel⟩
def c_9 : { m : List D → T D // ∀ {P : Program} {w : World} {K : PySem.W.Frag} {mg : Str → Option Value} {base : Heap} {G : GC} {f cd tb : Nat → Addr} {fd : Nat → FuncData}, Fx P w K mg base G f cd tb fd → FnOk P w K mg base (L2.CX P w) 2 (f 9) (fd 9) ["thing", "count"] (spM G 2 m) } :=
  ⟨_, fun {_ _ _ _ _ _ _ _ _ _} T => fn_ok (N := N_9) T.F_9 sc_9 fun cdv A outer s H E hr => (ss_one (st_ret (s_and (s_call tk_def (c_8.2 T) (hr.mono (by decide)) rfl T.g_8 T.F_8.kp T.b_8 (a_cons (s_var 0) a_nil)) (s_one (s_chain op_le op_lt s_int (s_var 0) (s_var 1))))))⟩
abbrev N_10 : List Str := ["thing", "signs", "sign"]
theorem sc_10 : FnScope N_10 ["thing", "signs"] (defScope s_10) := ⟨rfl, rfl, rfl, by decide +kernel, rfl, by decide +kernel, by decide +kernel⟩
def c_10 : { m : List D → T D // ∀ {P : Program} {w : World} {K : PySem.W.Frag} {mg : Str → Option Value} {base : Heap} {G : GC} {f cd tb : Nat → Addr} {fd : Nat → FuncData}, Fx P w K mg base G f cd tb fd → FnOk P w K mg base (L2.CX P w) 3 (f 10) (fd 10) ["thing", "signs"] (spM G 2 m) } :=
  ⟨_, fun {_ _ _ _ _ _ _ _ _ _} T => fn_ok (N := N_10) T.F_10 sc_10 fun cdv A outer s H E hr => (ss_one (st_ret (s_and (s_isi T.hk T.TF T.TB rfl T.n_isinstance (a_cons (s_var 0) (a_cons (s_ty (T := "tuple") rfl T.n_tuple (by decide +kernel)) a_nil))) (s_and (s_le (s_len T.hk rfl T.n_len (s_weak (s_var 0))) (s_globI rfl T.k_MAX_WORD)) (s_one (s_all T.hk rfl rfl T.n_all (s_weak (s_comp (own := [("sign", 2)]) (pt := (.nm 2)) T.hk rfl sc_10.nd (i_seq T.hk (s_var 0)) (blkOk_by (N := N_10) (sc := defScope s_10) (by decide +kernel)) (by decide) (fun _ _ _ _ _ => (pg_name (i := 2) sc_10.nd rfl (by first | exact Or.inl rfl | exact Or.inr rfl))) (fun _ _ _ _ _ => pts_yes) (fun _ _ _ _ _ => (s_call tk_no (c_9.2 T) (hr.mono (by decide)) rfl T.g_9 T.F_9.kp T.b_9 (a_cons (s_var 2) (a_cons (s_var 1) a_nil))))))))))))⟩
abbrev N_20 : List Str := ["signs", "data"]
theorem sc_20 : FnScope N_20 ["signs", "data"] (defScope s_20) := ⟨rfl, rfl, rfl, by decide +kernel, rfl, by decide +kernel, by decide +kernel⟩
def c_20 : { m : List D → T D // ∀ {P : Program} {w : World} {K : PySem.W.Frag} {mg : Str → Option Value} {base : Heap} {G : GC} {f cd tb : Nat → Addr} {fd : Nat → FuncData}, Fx P w K mg base G f cd tb fd → FnOk P w K mg base (L2.CX P w) 2 (f 20) (fd 20) ["signs", "data"] (spM G 2 m) } :=
  ⟨_, fun {_ _ _ _ _ _ _ _ _ _} T => fn_ok (N := N_20) T.F_20 sc_20 fun cdv A outer s H E hr => (ss_one (st_ret (s_and (s_call tk_def (c_8.2 T) (hr.mono (by decide)) rfl T.g_8 T.F_8.kp T.b_8 (a_cons (s_var 0) a_nil)) (s_and (s_chain op_le op_le (s_globI rfl T.k_MIN_SIGNS) (s_var 0) (s_globI rfl T.k_MAX_SIGNS)) (s_and (s_call tk_def (c_8.2 T) (hr.mono (by decide)) rfl T.g_8 T.F_8.kp T.b_8 (a_cons (s_var 1) a_nil)) (s_one (s_chain op_le op_le s_int (s_var 1) (s_globI rfl T.k_MAX_DATA))))))))⟩
abbrev N_21 : List Str := ["thing", "data", "event"]
theorem sc_21 : FnScope N_21 ["thing", "data"] (defScope s_21) := ⟨rfl, rfl, rfl, by decide +kernel, rfl, by decide +kernel, by decide +kernel⟩
def c_21 : { m : List D → T D // ∀ {P : Program} {w : World} {K : PySem.W.Frag} {mg : Str → Option Value} {base : Heap} {G : GC} {f cd tb : Nat → Addr} {fd : Nat → FuncData}, Fx P w K mg base G f cd tb fd → FnOk P w K mg base (L2.CX P w) 2 (f 21) (fd 21) ["thing", "data"] (spM G 2 m) } :=
  ⟨_, fun {_ _ _ _ _ _ _ _ _ _} T => fn_ok (N := N_21) T.F_21 sc_21 fun cdv A outer s H E hr => (ss_cons (st_if (L2.PW.pt (t_or (t_not (t_val T.hk (s_isi T.hk T.TF T.TB rfl T.n_isinstance (a_cons (s_var 0) (a_cons (s_ty (T := "tuple") rfl T.n_tuple (by decide +kernel)) a_nil))))) (t_or1 (t_gt (s_len T.hk rfl T.n_len (s_weak (s_var 0))) (s_globI rfl T.k_MAX_EVENTS))))) (ss_one (st_ret s_bl)) ss_nil) (ss_one (st_ret (s_all T.hk rfl rfl T.n_all (s_weak (s_comp (own := [("event", 2)]) (pt := (.nm 2)) T.hk rfl sc_21.nd (i_seq T.hk (s_var 0)) (blkOk_by (N := N_21) (sc := defScope s_21) (by decide +kernel)) (by decide) (fun _ _ _ _ _ => (pg_name (i := 2) sc_21.nd rfl (by first | exact Or.inl rfl | exact Or.inr rfl))) (fun _ _ _ _ _ => pts_yes) (fun _ _ _ _ _ => (s_and (s_call tk_no (c_8.2 T) (hr.mono (by decide)) rfl T.g_8 T.F_8.kp T.b_8 (a_cons (s_var 2) a_nil)) (s_one (s_chain op_le op_lt (s_globI rfl T.k_DROP) (s_var 2) (s_var 1)))))))))))⟩
abbrev NL_3 : List Str := ["word", "signs"]
theorem ls_3 : NScope NL_3 ["word"] ["signs"] l_3.scope := nscope_by (by decide +kernel)
theorem hf_3 : ∀ y ∈ l_3.scope.names, y.2 = .free → (defScope s_26000).names.lookup y.1 = some .cell ∨ (defScope s_26000).names.lookup y.1 = some .free := by decide +kernel
def lc_3 : { m : List D → List D → T D // ∀ {P : Program} {w : World} {K : PySem.W.Frag} {mg : Str → Option Value} {base : Heap} {G : GC} {f cd tb : Nat → Addr} {fd : Nat → FuncData}, Fx P w K mg base G f cd tb fd → LOk P w K mg base G 4 3 1 m } :=
  ⟨_, fun {_ _ _ _ _ _ _ _ _ _} T => lok_of (ps := ["word"]) T.gf (L := l_3) rfl ls_3 (fun _ _ _ _ us hl => match us, hl with | [_], _ => rfl) fun A outer s H E f c' cl hr => (s_call tk_lam (c_10.2 T) (hr.mono (by decide)) rfl T.g_10 T.F_10.kp T.b_10 (a_cons (s_var 0) (a_cons (s_var 1) a_nil)))⟩
abbrev NL_4 : List Str := ["events", "data"]
theorem ls_4 : NScope NL_4 ["events"] ["data"] l_4.scope := nscope_by (by decide +kernel)
theorem hf_4 : ∀ y ∈ l_4.scope.names, y.2 = .free → (defScope s_27000).names.lookup y.1 = some .cell ∨ (defScope s_27000).names.lookup y.1 = some .free := by decide +kernel
def lc_4 : { m : List D → List D → T D // ∀ {P : Program} {w : World} {K : PySem.W.Frag} {mg : Str → Option Value} {base : Heap} {G : GC} {f cd tb : Nat → Addr} {fd : Nat → FuncData}, Fx P w K mg base G f cd tb fd → LOk P w K mg base G 3 4 1 m } :=
  ⟨_, fun {_ _ _ _ _ _ _ _ _ _} T => lok_of (ps := ["events"]) T.gf (L := l_4) rfl ls_4 (fun _ _ _ _ us hl => match us, hl with | [_], _ => rfl) fun A outer s H E f c' cl hr => (s_call tk_lam (c_21.2 T) (hr.mono (by decide)) rfl T.g_21 T.F_21.kp T.b_21 (a_cons (s_var 0) (a_cons (s_var 1) a_nil)))⟩
abbrev N_22 : List Str := ["thing", "fits", "states"]
theorem sc_22 : FnScope N_22 ["thing", "fits", "states"] (defScope s_22) := ⟨rfl, rfl, rfl, by decide +kernel, rfl, by decide +kernel, by decide +kernel⟩
theorem lv_22 {P : Program} {w : World} {K : PySem.W.Frag} {mg : Str → Option Value} {base : Heap} {G : GC} {f cd tb : Nat → Addr} {fd : Nat → FuncData} (T : Fx P w K mg base G f cd tb fd) : LOks P w K mg base G 4 [(3, 1, lc_3.1), (4, 1, lc_4.1)] := (loks_cons ((lc_3.2 T).mono (by decide)) (loks_cons ((lc_4.2 T).mono (by decide)) loks_nil))
def c_22 : { m : List D → T D // ∀ {P : Program} {w : World} {K : PySem.W.Frag} {mg : Str → Option Value} {base : Heap} {G : GC} {f cd tb : Nat → Addr} {fd : Nat → FuncData}, Fx P w K mg base G f cd tb fd → FnOk P w K mg base (L2.CX P w) 5 (f 22) (fd 22) ["thing", "fits", "states"] (spM G 3 m) } :=
  ⟨_, fun {_ _ _ _ _ _ _ _ _ _} T => fn_ok (N := N_22) T.F_22 sc_22 fun cdv A outer s H E hr => (ss_one (st_ret (s_and (s_isi T.hk T.TF T.TB rfl T.n_isinstance (a_cons (s_var 0) (a_cons (s_ty (T := "tuple") rfl T.n_tuple (by decide +kernel)) a_nil))) (s_and (s_eq T.hk (hU hr 64) (s_weak (s_len T.hk rfl T.n_len (s_weak (s_var 0)))) (s_weak s_int)) (s_and (s_callV T.gf tk_def (hr.mono (by decide)) (lv_22 T) (i := 1) rfl (by first | exact Or.inl rfl | exact Or.inr (Or.inl rfl) | exact Or.inr (Or.inr rfl)) (a_cons (s_ix T.hk (hU hr 1) (s_var 0) s_int) a_nil)) (s_one (s_call tk_def (c_9.2 T) (hr.mono (by decide)) rfl T.g_9 T.F_9.kp T.b_9 (a_cons (s_ix T.hk (hU hr 1) (s_var 0) s_int) (a_cons (s_var 2) a_nil)))))))))⟩
abbrev N_23 : List Str := ["thing", "fits", "moves", "states", "move"]
theorem sc_23 : FnScope N_23 ["thing", "fits", "moves", "states"] (defScope s_23) := ⟨rfl, rfl, rfl, by decide +kernel, rfl, by decide +kernel, by decide +kernel⟩
def c_23 : { m : List D → T D // ∀ {P : Program} {w : World} {K : PySem.W.Frag} {mg : Str → Option Value} {base : Heap} {G : GC} {f cd tb : Nat → Addr} {fd : Nat → FuncData}, Fx P w K mg base G f cd tb fd → FnOk P w K mg base (L2.CX P w) 6 (f 23) (fd 23) ["thing", "fits", "moves", "states"] (spM G 4 m) } :=
  ⟨_, fun {_ _ _ _ _ _ _ _ _ _} T => fn_ok (N := N_23) T.F_23 sc_23 fun cdv A outer s H E hr => (ss_one (st_ret (s_and (s_isi T.hk T.TF T.TB rfl T.n_isinstance (a_cons (s_var 0) (a_cons (s_ty (T := "list") rfl T.n_list (by decide +kernel)) a_nil))) (s_and (s_eq T.hk (hU hr 64) (s_weak (s_len T.hk rfl T.n_len (s_weak (s_var 0)))) (s_weak (s_var 2))) (s_one (s_all T.hk rfl rfl T.n_all (s_weak (s_comp (own := [("move", 4)]) (pt := (.nm 4)) T.hk rfl sc_23.nd (i_seq T.hk (s_var 0)) (blkOk_by (N := N_23) (sc := defScope s_23) (by decide +kernel)) (by decide) (fun _ _ _ _ _ => (pg_name (i := 4) sc_23.nd rfl (by first | exact Or.inl rfl | exact Or.inr rfl))) (fun _ _ _ _ _ => pts_yes) (fun _ _ _ _ _ => (s_call tk_no (c_22.2 T) (hr.mono (by decide)) rfl T.g_22 T.F_22.kp T.b_22 (a_cons (s_var 4) (a_cons (s_var 1) (a_cons (s_var 3) a_nil)))))))))))))⟩
abbrev N_24 : List Str := ["thing", "fits", "moves", "most", "row"]
theorem sc_24 : FnScope N_24 ["thing", "fits", "moves", "most"] (defScope s_24) := ⟨rfl, rfl, rfl, by decide +kernel, rfl, by decide +kernel, by decide +kernel⟩
def c_24 : { m : List D → T D // ∀ {P : Program} {w : World} {K : PySem.W.Frag} {mg : Str → Option Value} {base : Heap} {G : GC} {f cd tb : Nat → Addr} {fd : Nat → FuncData}, Fx P w K mg base G f cd tb fd → FnOk P w K mg base (L2.CX P w) 7 (f 24) (fd 24) ["thing", "fits", "moves", "most"] (spM G 4 m) } :=
  ⟨_, fun {_ _ _ _ _ _ _ _ _ _} T => fn_ok (N := N_24) T.F_24 sc_24 fun cdv A outer s H E hr => (ss_cons (st_if (L2.PW.pt (t_or (t_not (t_val T.hk (s_isi T.hk T.TF T.TB rfl T.n_isinstance (a_cons (s_var 0) (a_cons (s_ty (T := "list") rfl T.n_list (by decide +kernel)) a_nil))))) (t_or1 (t_not (t_chain op_le op_le s_int (s_len T.hk rfl T.n_len (s_weak (s_var 0))) (s_var 3)))))) (ss_one (st_ret s_bl)) ss_nil) (ss_one (st_ret (s_all T.hk rfl rfl T.n_all (s_weak (s_comp (own := [("row", 4)]) (pt := (.nm 4)) T.hk rfl sc_24.nd (i_seq T.hk (s_var 0)) (blkOk_by (N := N_24) (sc := defScope s_24) (by decide +kernel)) (by decide) (fun _ _ _ _ _ => (pg_name (i := 4) sc_24.nd rfl (by first | exact Or.inl rfl | exact Or.inr rfl))) (fun _ _ _ _ _ => pts_yes) (fun _ _ _ _ _ => (s_call tk_no (c_23.2 T) (hr.mono (by decide)) rfl T.g_23 T.F_23.kp T.b_23 (a_cons (s_var 4) (a_cons (s_var 1) (a_cons (s_var 2) (a_cons (s_len T.hk rfl T.n_len (s_weak (s_var 0))) a_nil))))))))))))⟩
abbrev N_32 : List Str := ["items", "item"]
theorem sc_32 : FnScope N_32 ["items"] (defScope s_32) := ⟨rfl, rfl, rfl, by decide +kernel, rfl, by decide +kernel, by decide +kernel⟩
def c_32 : { m : List D → T D // ∀ {P : Program} {w : World} {K : PySem.W.Frag} {mg : Str → Option Value} {base : Heap} {G : GC} {f cd tb : Nat → Addr} {fd : Nat → FuncData}, Fx P w K mg base G f cd tb fd → FnOk P w K mg base (L2.CX P w) 1 (f 32) (fd 32) ["items"] (spM G 1 m) } :=
  ⟨_, fun {_ _ _ _ _ _ _ _ _ _} T => fn_ok (N := N_32) T.F_32 sc_32 fun cdv A outer s H E hr => (ss_one (st_ret (s_ifExp (t_ne T.hk (hU hr 64) (s_weak (s_var 0)) (s_weak (s_tup a_nil))) (s_join T.hk s_str (s_comp (own := [("item", 1)]) (pt := (.nm 1)) T.hk rfl sc_32.nd (i_seq T.hk (s_var 0)) (blkOk_by (N := N_32) (sc := defScope s_32) (by decide +kernel)) (by decide) (fun _ _ _ _ _ => (pg_name (i := 1) sc_32.nd rfl (by first | exact Or.inl rfl | exact Or.inr rfl))) (fun _ _ _ _ _ => pts_yes) (fun _ _ _ _ _ => (s_getW T.hk T.hN (hU hr 9) rfl T.k_EVENTS (s_var 1) (s_strI rfl T.n_str (s_var 1)))))) (s_globS rfl T.k_EMPTY))))⟩
abbrev N_25003 : List Str := ["self", "row"]
theorem sc_25003 : FnScope N_25003 ["self"] (defScope s_25003) := ⟨rfl, rfl, rfl, by decide +kernel, rfl, by decide +kernel, by decide +kernel⟩
def c_25003 : { m : List D → T D // ∀ {P : Program} {w : World} {K : PySem.W.Frag} {mg : Str → Option Value} {base : Heap} {G : GC} {f cd tb : Nat → Addr} {fd : Nat → FuncData}, Fx P w K mg base G f cd tb fd → FnOk P w K mg base (L2.CX P w) 1 (f 25003) (fd 25003) ["self"] (spM G 1 m) } :=
  ⟨_, fun {_ _ _ _ _ _ _ _ _ _} T => fn_ok (N := N_25003) T.F_25003 sc_25003 fun cdv A outer s H E hr => (ss_one (st_ret (s_comp (own := [("row", 1)]) (pt := (.nm 1)) T.hk rfl sc_25003.nd (i_seq T.hk (s_fld [0, 1, 2, 3] T.hk T.fl_table (s_var 0))) (blkOk_by (N := N_25003) (sc := defScope s_25003) (by decide +kernel)) (by decide) (fun _ _ _ _ _ => (pg_name (i := 1) sc_25003.nd rfl (by first | exact Or.inl rfl | exact Or.inr rfl))) (fun _ _ _ _ _ => pts_yes) (fun _ _ _ _ _ => (s_list T.hk rfl T.n_list (s_var 1))))))⟩
abbrev N_25001 : List Str := ["self"]
theorem sc_25001 : FnScope N_25001 ["self"] (defScope s_25001) := ⟨rfl, rfl, rfl, by decide +kernel, rfl, by decide +kernel, by decide +kernel⟩
def c_25001 : { m : List D → T D // ∀ {P : Program} {w : World} {K : PySem.W.Frag} {mg : Str → Option Value} {base : Heap} {G : GC} {f cd tb : Nat → Addr} {fd : Nat → FuncData}, Fx P w K mg base G f cd tb fd → FnOk P w K mg base (L2.CX P w) 1 (f 25001) (fd 25001) ["self"] (spM G 1 m) } :=
  ⟨_, fun {_ _ _ _ _ _ _ _ _ _} T => fn_ok (N := N_25001) T.F_25001 sc_25001 fun cdv A outer s H E hr => (ss_one (st_ret (s_fld [0, 1, 2, 3] T.hk T.fl_letters (s_var 0))))⟩
abbrev N_25002 : List Str := ["self"]
theorem sc_25002 : FnScope N_25002 ["self"] (defScope s_25002) := ⟨rfl, rfl, rfl, by decide +kernel, rfl, by decide +kernel, by decide +kernel⟩
def c_25002 : { m : List D → T D // ∀ {P : Program} {w : World} {K : PySem.W.Frag} {mg : Str → Option Value} {base : Heap} {G : GC} {f cd tb : Nat → Addr} {fd : Nat → FuncData}, Fx P w K mg base G f cd tb fd → FnOk P w K mg base (L2.CX P w) 1 (f 25002) (fd 25002) ["self"] (spM G 1 m) } :=
  ⟨_, fun {_ _ _ _ _ _ _ _ _ _} T => fn_ok (N := N_25002) T.F_25002 sc_25002 fun cdv A outer s H E hr => (ss_one (st_ret (s_fld [0, 1, 2, 3] T.hk T.fl_kinds (s_var 0))))⟩
abbrev N_33 : List Str := ["word", "machine", "lines", "row", "items", "later"]
theorem sc_33 : FnScope N_33 ["word", "machine"] (defScope s_33) := ⟨rfl, rfl, rfl, by decide +kernel, rfl, by decide +kernel, by decide +kernel⟩
def c_33 : { m : List D → T D // ∀ {P : Program} {w : World} {K : PySem.W.Frag} {mg : Str → Option Value} {base : Heap} {G : GC} {f cd tb : Nat → Addr} {fd : Nat → FuncData}, Fx P w K mg base G f cd tb fd → FnOk P w K mg base (L2.CX P w) 3 (f 33) (fd 33) ["word", "machine"] (spM G 2 m) } :=
  ⟨_, fun {_ _ _ _ _ _ _ _ _ _} T => fn_ok (N := N_33) T.F_33 sc_33 fun cdv A outer s H E hr => (ss_cons (st_asgO (pg_name (i := 2) sc_33.nd rfl (by first | exact Or.inl rfl | exact Or.inr rfl)) (n_lst (a_cons (s_fstr (.cons (s_fmt (s_var 0)) (.cons s_str (.cons (s_fmt (s_prop [0, 1, 2] T.hk T.p_signs (c_25001.2 T) (hr.mono (by decide)) T.b_25001 (s_var 1))) (.cons s_str (.cons (s_fmt (s_prop [0, 1, 2] T.hk T.p_data (c_25002.2 T) (hr.mono (by decide)) T.b_25002 (s_var 1))) .nil)))))) a_nil))) (ss_cons (st_for (pt := (.nm 3)) T.hk po_def rfl (i_seq T.hk (s_prop [0, 1, 2] T.hk T.p_rows (c_25003.2 T) (hr.mono (by decide)) T.b_25003 (s_var 1))) (pg_name (i := 3) sc_33.nd rfl (by first | exact Or.inl rfl | exact Or.inr rfl)) (ss_cons (st_append T.hk (pv 2) s_str) (ss_one (st_extend T.hk (pv 2) (s_comp (own := [("items", 4), ("later", 5)]) (pt := (.tp [4, 5])) T.hk rfl sc_33.nd (i_seq T.hk (s_var 3)) (blkOk_by (N := N_33) (sc := defScope s_33) (by decide +kernel)) (by decide) (fun _ _ _ _ _ => (pg_tp rfl (gn_cons (pg_name (i := 4) sc_33.nd rfl (by first | exact Or.inl rfl | exact Or.inr rfl)) (gn_cons (pg_name (i := 5) sc_33.nd rfl (by first | exact Or.inl rfl | exact Or.inr rfl)) gn_nil)))) (fun _ _ _ _ _ => pts_yes) (fun _ _ _ _ _ => (s_fstr (.cons (s_fmt (s_call tk_no (c_32.2 T) (hr.mono (by decide)) rfl T.g_32 T.F_32.kp T.b_32 (a_cons (s_var 4) a_nil))) (.cons s_str (.cons (s_fmt (s_var 5)) .nil)))))))))) (ss_one (st_frz 2 (st_ret (s_join T.hk s_str (s_var 2)))))))⟩
abbrev N_34 : List Str := ["writer"]
theorem sc_34 : FnScope N_34 ["writer"] (defScope s_34) := ⟨rfl, rfl, rfl, by decide +kernel, rfl, by decide +kernel, by decide +kernel⟩
def c_34 : { m : List D → T D // ∀ {P : Program} {w : World} {K : PySem.W.Frag} {mg : Str → Option Value} {base : Heap} {G : GC} {f cd tb : Nat → Addr} {fd : Nat → FuncData}, Fx P w K mg base G f cd tb fd → FnOk P w K mg base (L2.CX P w) 4 (f 34) (fd 34) ["writer"] (spM G 1 m) } :=
  ⟨_, fun {_ _ _ _ _ _ _ _ _ _} T => fn_ok (N := N_34) T.F_34 sc_34 fun cdv A outer s H E hr => (ss_one (st_ret (s_call tk_def (c_33.2 T) (hr.mono (by decide)) rfl T.g_33 T.F_33.kp T.b_33 (a_cons s_str (a_cons (s_var 0) a_nil)))))⟩
abbrev N_35 : List Str := ["reader"]
theorem sc_35 : FnScope N_35 ["reader"] (defScope s_35) := ⟨rfl, rfl, rfl, by decide +kernel, rfl, by decide +kernel, by decide +kernel⟩
def c_35 : { m : List D → T D // ∀ {P : Program} {w : World} {K : PySem.W.Frag} {mg : Str → Option Value} {base : Heap} {G : GC} {f cd tb : Nat → Addr} {fd : Nat → FuncData}, Fx P w K mg base G f cd tb fd → FnOk P w K mg base (L2.CX P w) 4 (f 35) (fd 35) ["reader"] (spM G 1 m) } :=
  ⟨_, fun {_ _ _ _ _ _ _ _ _ _} T => fn_ok (N := N_35) T.F_35 sc_35 fun cdv A outer s H E hr => (ss_one (st_ret (s_call tk_def (c_33.2 T) (hr.mono (by decide)) rfl T.g_33 T.F_33.kp T.b_33 (a_cons s_str (a_cons (s_var 0) a_nil)))))⟩
abbrev N_36 : List Str := ["word", "sign"]
theorem sc_36 : FnScope N_36 ["word"] (defScope s_36) := ⟨rfl, rfl, rfl, by decide +kernel, rfl, by decide +kernel, by decide +kernel⟩
def c_36 : { m : List D → T D // ∀ {P : Program} {w : World} {K : PySem.W.Frag} {mg : Str → Option Value} {base : Heap} {G : GC} {f cd tb : Nat → Addr} {fd : Nat → FuncData}, Fx P w K mg base G f cd tb fd → FnOk P w K mg base (L2.CX P w) 1 (f 36) (fd 36) ["word"] (spM G 1 m) } :=
  ⟨_, fun {_ _ _ _ _ _ _ _ _ _} T => fn_ok (N := N_36) T.F_36 sc_36 fun cdv A outer s H E hr => (ss_cons (st_if (L2.PW.pt (t_or (t_not (t_chain op_le op_le s_int (s_len T.hk rfl T.n_len (s_weak (s_var 0))) s_int)) (t_or1 (t_not (t_val T.hk (s_all T.hk rfl rfl T.n_all (s_weak (s_comp (own := [("sign", 1)]) (pt := (.nm 1)) T.hk rfl sc_36.nd (i_chrs (s_var 0)) (blkOk_by (N := N_36) (sc := defScope s_36) (by decide +kernel)) (by decide) (fun _ _ _ _ _ => (pg_name (i := 1) sc_36.nd rfl (by first | exact Or.inl rfl | exact Or.inr rfl))) (fun _ _ _ _ _ => pts_yes) (fun _ _ _ _ _ => (s_in T.hk (hU hr 65) (s_weak (s_var 1)) (s_weak (s_globS rfl T.k_FIGURES)))))))))))) (ss_one (st_ret s_non)) ss_nil) (ss_one (st_ret (s_ifExp (t_eq T.hk (hU hr 64) (s_weak (s_var 0)) (s_weak (s_strI rfl T.n_str (s_intT rfl T.n_int (s_var 0))))) (s_intT rfl T.n_int (s_var 0)) s_non))))⟩
abbrev N_37 : List Str := ["word", "count", "found"]
theorem sc_37 : FnScope N_37 ["word", "count"] (defScope s_37) := ⟨rfl, rfl, rfl, by decide +kernel, rfl, by decide +kernel, by decide +kernel⟩
def c_37 : { m : List D → T D // ∀ {P : Program} {w : World} {K : PySem.W.Frag} {mg : Str → Option Value} {base : Heap} {G : GC} {f cd tb : Nat → Addr} {fd : Nat → FuncData}, Fx P w K mg base G f cd tb fd → FnOk P w K mg base (L2.CX P w) 2 (f 37) (fd 37) ["word", "count"] (spM G 2 m) } :=
  ⟨_, fun {_ _ _ _ _ _ _ _ _ _} T => fn_ok (N := N_37) T.F_37 sc_37 fun cdv A outer s H E hr => (ss_cons (st_asg (pg_name (i := 2) sc_37.nd rfl (by first | exact Or.inl rfl | exact Or.inr rfl)) (s_call tk_def (c_36.2 T) (hr.mono (by decide)) rfl T.g_36 T.F_36.kp T.b_36 (a_cons (s_var 0) a_nil))) (ss_one (st_ret (s_ifExp (L2.PW.pt (t_and (t_notN (s_weak (s_var 2)) (s_weak s_non)) (t_and1 (t_lt (s_var 2) (s_var 1))))) (s_var 2) s_non))))⟩
abbrev N_38 : List Str := ["word", "data", "event", "sign"]
theorem sc_38 : FnScope N_38 ["word", "data"] (defScope s_38) := ⟨rfl, rfl, rfl, by decide +kernel, rfl, by decide +kernel, by decide +kernel⟩
def c_38 : { m : List D → T D // ∀ {P : Program} {w : World} {K : PySem.W.Frag} {mg : Str → Option Value} {base : Heap} {G : GC} {f cd tb : Nat → Addr} {fd : Nat → FuncData}, Fx P w K mg base G f cd tb fd → FnOk P w K mg base (L2.CX P w) 3 (f 38) (fd 38) ["word", "data"] (spM G 2 m) } :=
  ⟨_, fun {_ _ _ _ _ _ _ _ _ _} T => fn_ok (N := N_38) T.F_38 sc_38 fun cdv A outer s H E hr => (ss_cons (st_for (pt := (.tp [2, 3])) T.hk po_def rfl (i_itemsW T.hk rfl T.k_EVENTS) (pg_tp rfl (gn_cons (pg_name (i := 2) sc_38.nd rfl (by first | exact Or.inl rfl | exact Or.inr rfl)) (gn_cons (pg_name (i := 3) sc_38.nd rfl (by first | exact Or.inl rfl | exact Or.inr rfl)) gn_nil))) (ss_one (st_if (t_eq T.hk (hU hr 64) (s_weak (s_var 0)) (s_weak (s_var 3))) (ss_one (st_ret (s_var 2))) ss_nil))) (ss_one (st_ret (s_call tk_def (c_37.2 T) (hr.mono (by decide)) rfl T.g_37 T.F_37.kp T.b_37 (a_cons (s_var 0) (a_cons (s_var 1) a_nil))))))⟩
abbrev N_40 : List Str := ["lines", "word", "words", "numbers", "one"]
theorem sc_40 : FnScope N_40 ["lines", "word"] (defScope s_40) := ⟨rfl, rfl, rfl, by decide +kernel, rfl, by decide +kernel, by decide +kernel⟩
def c_40 : { m : List D → T D // ∀ {P : Program} {w : World} {K : PySem.W.Frag} {mg : Str → Option Value} {base : Heap} {G : GC} {f cd tb : Nat → Addr} {fd : Nat → FuncData}, Fx P w K mg base G f cd tb fd → FnOk P w K mg base (L2.CX P w) 3 (f 40) (fd 40) ["lines", "word"] (spM G 2 m) } :=
  ⟨_, fun {_ _ _ _ _ _ _ _ _ _} T => fn_ok (N := N_40) T.F_40 sc_40 fun cdv A outer s H E hr => (ss_cons (st_asg (pg_name (i := 2) sc_40.nd rfl (by first | exact Or.inl rfl | exact Or.inr rfl)) (s_split (s_ix T.hk (hU hr 1) (s_var 0) s_int) s_str)) (ss_cons (st_asgC (i := 3) (own := [("one", 4)]) (pt := (.nm 4)) T.hk rfl sc_40.nd rfl rfl rfl (i_seq T.hk (s_slice T.hk (s_var 2) (o_some s_int) o_none)) (blkOk_by (N := N_40) (sc := defScope s_40) (by decide +kernel)) (by decide) (fun _ _ _ _ _ => (pg_name (i := 4) sc_40.nd rfl (by first | exact Or.inl rfl | exact Or.inr rfl))) (fun _ _ _ _ _ => pts_yes) (fun _ _ _ _ _ => (s_call tk_no (c_36.2 T) (hr.mono (by decide)) rfl T.g_36 T.F_36.kp T.b_36 (a_cons (s_var 4) a_nil)))) (ss_cons (st_if (L2.PW.pt (t_or (t_ne T.hk (hU hr 64) (s_weak (s_ix T.hk (hU hr 1) (s_var 2) s_int)) (s_weak (s_var 1))) (t_or (t_ne T.hk (hU hr 64) (s_weak (s_len T.hk rfl T.n_len (s_weak (s_var 3)))) (s_weak s_int)) (t_or1 (t_not (t_val T.hk (s_call tk_def (c_20.2 T) (hr.mono (by decide)) rfl T.g_20 T.F_20.kp T.b_20 (a_cons (s_ix T.hk (hU hr 1) (s_var 3) s_int) (a_cons (s_ix T.hk (hU hr 1) (s_var 3) s_int) a_nil))))))))) (ss_one st_fail) ss_nil) (ss_one (st_ret (s_var 3))))))⟩
abbrev NL_1 : List Str := ["word", "signs"]
theorem ls_1 : NScope NL_1 ["word"] ["signs"] l_1.scope := nscope_by (by decide +kernel)
theorem hf_1 : ∀ y ∈ l_1.scope.names, y.2 = .free → (defScope s_43).names.lookup y.1 = some .cell ∨ (defScope s_43).names.lookup y.1 = some .free := by decide +kernel
def lc_1 : { m : List D → List D → T D // ∀ {P : Program} {w : World} {K : PySem.W.Frag} {mg : Str → Option Value} {base : Heap} {G : GC} {f cd tb : Nat → Addr} {fd : Nat → FuncData}, Fx P w K mg base G f cd tb fd → LOk P w K mg base G 3 1 1 m } :=
  ⟨_, fun {_ _ _ _ _ _ _ _ _ _} T => lok_of (ps := ["word"]) T.gf (L := l_1) rfl ls_1 (fun _ _ _ _ us hl => match us, hl with | [_], _ => rfl) fun A outer s H E f c' cl hr => (s_call tk_lam (c_37.2 T) (hr.mono (by decide)) rfl T.g_37 T.F_37.kp T.b_37 (a_cons (s_var 0) (a_cons (s_var 1) a_nil)))⟩
abbrev NL_2 : List Str := ["word", "data"]
theorem ls_2 : NScope NL_2 ["word"] ["data"] l_2.scope := nscope_by (by decide +kernel)
theorem hf_2 : ∀ y ∈ l_2.scope.names, y.2 = .free → (defScope s_44).names.lookup y.1 = some .cell ∨ (defScope s_44).names.lookup y.1 = some .free := by decide +kernel
def lc_2 : { m : List D → List D → T D // ∀ {P : Program} {w : World} {K : PySem.W.Frag} {mg : Str → Option Value} {base : Heap} {G : GC} {f cd tb : Nat → Addr} {fd : Nat → FuncData}, Fx P w K mg base G f cd tb fd → LOk P w K mg base G 4 2 1 m } :=
  ⟨_, fun {_ _ _ _ _ _ _ _ _ _} T => lok_of (ps := ["word"]) T.gf (L := l_2) rfl ls_2 (fun _ _ _ _ us hl => match us, hl with | [_], _ => rfl) fun A outer s H E f c' cl hr => (s_call tk_lam (c_38.2 T) (hr.mono (by decide)) rfl T.g_38 T.F_38.kp T.b_38 (a_cons (s_var 0) (a_cons (s_var 1) a_nil)))⟩
abbrev N_39001 : List Str := ["self", "line", "words", "later", "items", "word"]
theorem sc_39001 : FnScope N_39001 ["self", "line"] (defScope s_39001) := ⟨rfl, rfl, rfl, by decide +kernel, rfl, by decide +kernel, by decide +kernel⟩
theorem lv_39001 {P : Program} {w : World} {K : PySem.W.Frag} {mg : Str → Option Value} {base : Heap} {G : GC} {f cd tb : Nat → Addr} {fd : Nat → FuncData} (T : Fx P w K mg base G f cd tb fd) : LOks P w K mg base G 4 [(1, 1, lc_1.1), (2, 1, lc_2.1)] := (loks_cons ((lc_1.2 T).mono (by decide)) (loks_cons ((lc_2.2 T).mono (by decide)) loks_nil))
def c_39001 : { m : List D → T D // ∀ {P : Program} {w : World} {K : PySem.W.Frag} {mg : Str → Option Value} {base : Heap} {G : GC} {f cd tb : Nat → Addr} {fd : Nat → FuncData}, Fx P w K mg base G f cd tb fd → FnOk P w K mg base (L2.CX P w) 5 (f 39001) (fd 39001) ["self", "line"] (spM G 2 m) } :=
  ⟨_, fun {_ _ _ _ _ _ _ _ _ _} T => fn_ok (N := N_39001) T.F_39001 sc_39001 fun cdv A outer s H E hr => (ss_cons (st_asg (pg_name (i := 2) sc_39001.nd rfl (by first | exact Or.inl rfl | exact Or.inr rfl)) (s_split (s_var 1) s_str)) (ss_cons (st_asg (pg_name (i := 3) sc_39001.nd rfl (by first | exact Or.inl rfl | exact Or.inr rfl)) (s_ifExp (t_eq T.hk (hU hr 64) (s_weak (s_len T.hk rfl T.n_len (s_weak (s_var 2)))) (s_weak s_int)) (s_call tk_def (c_36.2 T) (hr.mono (by decide)) rfl T.g_36 T.F_36.kp T.b_36 (a_cons (s_ix T.hk (hU hr 1) (s_var 2) s_int) a_nil)) s_non)) (ss_cons (st_if (L2.PW.pt (t_or (t_isN (s_weak (s_var 3)) (s_weak s_non)) (t_or1 (t_ge (s_var 3) (s_fld [0, 1, 2, 3] T.hk T.fl_most (s_var 0)))))) (ss_one (st_ret s_non)) ss_nil) (ss_cons (st_asg (pg_name (i := 4) sc_39001.nd rfl (by first | exact Or.inl rfl | exact Or.inr rfl)) (s_ifExp (t_eq T.hk (hU hr 64) (s_weak (s_ix T.hk (hU hr 1) (s_var 2) s_int)) (s_weak (s_globS rfl T.k_EMPTY))) (s_tup a_nil) (s_tuple T.hk rfl T.n_tuple (s_comp (own := [("word", 5)]) (pt := (.nm 5)) T.hk rfl sc_39001.nd (i_seq T.hk (s_split (s_ix T.hk (hU hr 1) (s_var 2) s_int) s_str)) (blkOk_by (N := N_39001) (sc := defScope s_39001) (by decide +kernel)) (by decide) (fun _ _ _ _ _ => (pg_name (i := 5) sc_39001.nd rfl (by first | exact Or.inl rfl | exact Or.inr rfl))) (fun _ _ _ _ _ => pts_yes) (fun _ _ _ _ _ => (s_callA T.hk T.gf tk_no (hr.mono (by decide)) (lv_39001 T) T.a_39 (T.fl_items_of 3 (by decide) _ T.a_39) (s_var 0) (a_cons (s_var 5) a_nil))))))) (ss_one (st_ret (s_ifExp (L2.PW.pt (t_and (t_notIn T.hk (hU hr 65) (s_weak s_non) (s_weak (s_var 4))) (t_and1 (t_le (s_len T.hk rfl T.n_len (s_weak (s_var 4))) (s_fld [0, 1, 2, 3] T.hk T.fl_longest (s_var 0)))))) (s_tup (a_cons (s_var 4) (a_cons (s_var 3) a_nil))) s_non)))))))⟩
abbrev N_41 : List Str := ["lines", "kind", "rows", "missing", "index", "line", "move", "row", "items", "later"]
theorem sc_41 : FnScope N_41 ["lines", "kind"] (defScope s_41) := ⟨rfl, rfl, rfl, by decide +kernel, rfl, by decide +kernel, by decide +kernel⟩
def c_41 : { m : List D → T D // ∀ {P : Program} {w : World} {K : PySem.W.Frag} {mg : Str → Option Value} {base : Heap} {G : GC} {f cd tb : Nat → Addr} {fd : Nat → FuncData}, Fx P w K mg base G f cd tb fd → FnOk P w K mg base (L2.CX P w) 6 (f 41) (fd 41) ["lines", "kind"] (spM G 2 m) } :=
  ⟨_, fun {_ _ _ _ _ _ _ _ _ _} T => fn_ok (N := N_41) T.F_41 sc_41 fun cdv A outer s H E hr => (ss_cons (st_asgO (pg_name (i := 2) sc_41.nd rfl (by first | exact Or.inl rfl | exact Or.inr rfl)) n_ll0) (ss_cons (st_for (pt := (.tp [4, 5])) T.hk po_def rfl (i_enumK T.hk rfl T.n_enumerate (s_slice T.hk (s_var 0) (o_some s_int) o_none) s_int) (pg_tp rfl (gn_cons (pg_name (i := 4) sc_41.nd rfl (by first | exact Or.inl rfl | exact Or.inr rfl)) (gn_cons (pg_name (i := 5) sc_41.nd rfl (by first | exact Or.inl rfl | exact Or.inr rfl)) gn_nil))) (ss_one (st_if (L2.PW.pt (t_or (t_eq T.hk (hU hr 64) (s_look 2) (s_weak (s_lst a_nil))) (t_or1 (t_eq T.hk (hU hr 64) (s_weak (s_len T.hk rfl T.n_len (s_ix T.hk (hU hr 1) (s_look 2) (s_neg s_int)))) (s_weak (s_fld [0, 1, 2, 3] T.hk T.fl_moves (s_var 1))))))) (ss_cons (st_if (L2.PW.pt (t_or (t_ne T.hk (hU hr 64) (s_weak (s_var 5)) (s_weak s_str)) (t_or1 (t_eq T.hk (hU hr 64) (s_weak (s_len T.hk rfl T.n_len (s_look 2))) (s_weak (s_fld [0, 1, 2, 3] T.hk T.fl_most (s_var 1))))))) (ss_one st_fail) ss_nil) (ss_one (st_rowApp (s := 2) (kk := none) T.hk (pv 2) at_name (n_lst a_nil)))) (ss_cons (st_asg (pg_name (i := 6) sc_41.nd rfl (by first | exact Or.inl rfl | exact Or.inr rfl)) (s_meth tk_def T.a_39 T.m_39_move_of.1 T.m_39_move_of.2 (c_39001.2 T) (hr.mono (by decide)) T.b_39001 (s_var 1) (a_cons (s_var 5) a_nil))) (ss_cons (st_if (t_isN (s_weak (s_var 6)) (s_weak s_non)) (ss_one st_fail) ss_nil) (ss_one (st_llApp T.hk (pv 2) (s_neg s_int) (s_var 6)))))))) (ss_cons (st_frz 2 (st_asg (pg_name (i := 3) sc_41.nd rfl (by first | exact Or.inl rfl | exact Or.inr rfl)) (s_ge (s_maxDef T.hk rfl (hU hr 9) rfl T.n_max (s_weak (s_comp2 (own := [("row", 7), ("items", 8), ("later", 9)]) (vs1 := [8, 9]) (pt := (.nm 7)) (pt1 := (.tp [8, 9])) T.hk rfl sc_41.nd (i_seq T.hk (s_var 2)) (blkOk_by (N := N_41) (sc := defScope s_41) (by decide +kernel)) (by decide) (by decide) (by decide) (fun _ _ _ _ _ => (pg_name (i := 7) sc_41.nd rfl (by first | exact Or.inl rfl | exact Or.inr rfl))) (fun _ _ _ _ _ => pts_yes) (fun _ _ _ _ _ => (i_seq T.hk (s_var 7))) (fun _ _ _ _ _ => (pg_tp rfl (gn_cons (pg_name (i := 8) sc_41.nd rfl (by first | exact Or.inl rfl | exact Or.inr rfl)) (gn_cons (pg_name (i := 9) sc_41.nd rfl (by first | exact Or.inl rfl | exact Or.inr rfl)) gn_nil)))) (fun _ _ _ _ _ => pts_yes) (fun _ _ _ _ _ => (s_var 9))))) (s_len T.hk rfl T.n_len (s_weak (s_var 2)))))) (ss_cons (st_if (L2.PW.pt (t_or (t_eq T.hk (hU hr 64) (s_weak (s_var 2)) (s_weak (s_lst a_nil))) (t_or (t_lt (s_len T.hk rfl T.n_len (s_weak (s_ix T.hk (hU hr 1) (s_var 2) (s_neg s_int)))) (s_fld [0, 1, 2, 3] T.hk T.fl_moves (s_var 1))) (t_or1 (t_val T.hk (s_var 3)))))) (ss_one st_fail) ss_nil) (ss_one (st_ret (s_var 2)))))))⟩
abbrev N_42 : List Str := ["text"]
theorem sc_42 : FnScope N_42 ["text"] (defScope s_42) := ⟨rfl, rfl, rfl, by decide +kernel, rfl, by decide +kernel, by decide +kernel⟩
def c_42 : { m : List D → T D // ∀ {P : Program} {w : World} {K : PySem.W.Frag} {mg : Str → Option Value} {base : Heap} {G : GC} {f cd tb : Nat → Addr} {fd : Nat → FuncData}, Fx P w K mg base G f cd tb fd → FnOk P w K mg base (L2.CX P w) 1 (f 42) (fd 42) ["text"] (spM G 1 m) } :=
  ⟨_, fun {_ _ _ _ _ _ _ _ _ _} T => fn_ok (N := N_42) T.F_42 sc_42 fun cdv A outer s H E hr => (ss_one (st_ret (s_ifExp (t_val T.hk (s_isi T.hk T.TF T.TB rfl T.n_isinstance (a_cons (s_var 0) (a_cons (s_ty (T := "str") rfl T.n_str (by decide +kernel)) a_nil)))) (s_split (s_var 0) s_str) (s_lst (a_cons s_str a_nil)))))⟩
abbrev N_39000 : List Str := ["self", "word", "moves", "most", "items", "longest"]
theorem sc_39000 : FnScope N_39000 ["self", "word", "moves", "most", "items", "longest"] (defScope s_39000) := ⟨rfl, rfl, rfl, by decide +kernel, rfl, by decide +kernel, by decide +kernel⟩
def c_39000 : { m : Nat → List (Str × D) → List D → T (List (Str × D)) // ∀ {P : Program} {w : World} {K : PySem.W.Frag} {mg : Str → Option Value} {base : Heap} {G : GC} {f cd tb : Nat → Addr} {fd : Nat → FuncData}, Fx P w K mg base G f cd tb fd → FnOk P w K mg base (L2.CX P w) 1 (f 39000) (fd 39000) ["self", "word", "moves", "most", "items", "longest"] (spI G 6 m) } :=
  ⟨_, fun {_ _ _ _ _ _ _ _ _ _} T => fn_init (N := N_39000) T.F_39000 sc_39000 fun cdv A outer s H E hr => (ss_cons (st_me [0, 1, 2, 3] T.hk T.fl_word (pv 0) (s_var 1)) (ss_cons (st_me [0, 1, 2, 3] T.hk T.fl_moves (pv 0) (s_var 2)) (ss_cons (st_me [0, 1, 2, 3] T.hk T.fl_most (pv 0) (s_var 3)) (ss_cons (st_me [0, 1, 2, 3] T.hk T.fl_items_of (pv 0) (s_var 4)) (ss_one (st_me [0, 1, 2, 3] T.hk T.fl_longest (pv 0) (s_var 5)))))))⟩
abbrev N_25000 : List Str := ["self", "signs", "data", "rows", "row"]
theorem sc_25000 : FnScope N_25000 ["self", "signs", "data", "rows"] (defScope s_25000) := ⟨rfl, rfl, rfl, by decide +kernel, rfl, by decide +kernel, by decide +kernel⟩
def c_25000 : { m : Nat → List (Str × D) → List D → T (List (Str × D)) // ∀ {P : Program} {w : World} {K : PySem.W.Frag} {mg : Str → Option Value} {base : Heap} {G : GC} {f cd tb : Nat → Addr} {fd : Nat → FuncData}, Fx P w K mg base G f cd tb fd → FnOk P w K mg base (L2.CX P w) 1 (f 25000) (fd 25000) ["self", "signs", "data", "rows"] (spI G 4 m) } :=
  ⟨_, fun {_ _ _ _ _ _ _ _ _ _} T => fn_init (N := N_25000) T.F_25000 sc_25000 fun cdv A outer s H E hr => (ss_cons (st_me [0, 1, 2, 3] T.hk T.fl_letters (pv 0) (s_var 1)) (ss_cons (st_me [0, 1, 2, 3] T.hk T.fl_kinds (pv 0) (s_var 2)) (ss_one (st_me [0, 1, 2, 3] T.hk T.fl_table (pv 0) (s_comp (own := [("row", 4)]) (pt := (.nm 4)) T.hk rfl sc_25000.nd (i_seq T.hk (s_var 3)) (blkOk_by (N := N_25000) (sc := defScope s_25000) (by decide +kernel)) (by decide) (fun _ _ _ _ _ => (pg_name (i := 4) sc_25000.nd rfl (by first | exact Or.inl rfl | exact Or.inr rfl))) (fun _ _ _ _ _ => pts_yes) (fun _ _ _ _ _ => (s_list T.hk rfl T.n_list (s_var 4))))))))⟩
abbrev N_26000 : List Str := ["self", "signs", "data", "rows"]
theorem sc_26000 : FnScope N_26000 ["self", "signs", "data", "rows"] (defScope s_26000) := ⟨rfl, rfl, rfl, by decide +kernel, rfl, by decide +kernel, by decide +kernel⟩
def c_26000 : { m : Nat → List (Str × D) → List D → T (List (Str × D)) // ∀ {P : Program} {w : World} {K : PySem.W.Frag} {mg : Str → Option Value} {base : Heap} {G : GC} {f cd tb : Nat → Addr} {fd : Nat → FuncData}, Fx P w K mg base G f cd tb fd → FnOk P w K mg base (L2.CX P w) 8 (f 26000) (fd 26000) ["self", "signs", "data", "rows"] (spI G 4 m) } :=
  ⟨_, fun {_ _ _ _ _ _ _ _ _ _} T => fn_initC (N := N_26000) T.F_26000 sc_26000 T.hc_26000 fun A outer s H E hr => (ss_cons (st_if (t_not (t_val T.hk (s_call tk_def (c_20.2 T) (hr.mono (by decide)) rfl T.g_20 T.F_20.kp T.b_20 (a_cons (s_var 1) (a_cons (s_var 2) a_nil))))) (ss_one (st_raise T.hk rfl tk_def PySem.F.excBase_ValueError T.r_4 T.a_4 rfl T.g_4)) ss_nil) (ss_cons (st_if (t_not (t_val T.hk (s_callL T.gf (L := l_3) (id := 3) (js := [1]) rfl (fun _ => rfl) hf_3 (by decide +kernel) rfl tk_def (c_24.2 T) (hr.mono (by decide)) rfl T.g_24 T.F_24.kp T.b_24 (al_cons (s_var 3) (al_lam (L := l_3) (id := 3) (js := [1]) T.TB_26000 rfl rfl T.tm_26000 rfl T.tu_26000 rfl hf_3 (a_cons (s_add T.hk (s_var 2) s_int) (a_cons (s_globI rfl T.k_MAX_WRITER) a_nil))))))) (ss_one (st_raise T.hk rfl tk_def PySem.F.excBase_ValueError T.r_4 T.a_4 rfl T.g_4)) ss_nil) (ss_one (st_base tk_def rfl T.g_25 T.cr_25.1 T.cr_25.2.1 T.cr_25.2.2 (c_25000.2 T) (hr.mono (by decide)) T.b_25000 (pv 0) (a_cons (s_var 1) (a_cons (s_var 2) (a_cons (s_var 3) a_nil)))))))⟩
abbrev N_43 : List Str := ["text", "lines", "kind", "signs", "data"]
theorem sc_43 : FnScope N_43 ["text"] (defScope s_43) := ⟨rfl, rfl, rfl, by decide +kernel, rfl, by decide +kernel, by decide +kernel⟩
def c_43 : { m : List D → T D // ∀ {P : Program} {w : World} {K : PySem.W.Frag} {mg : Str → Option Value} {base : Heap} {G : GC} {f cd tb : Nat → Addr} {fd : Nat → FuncData}, (∀ st sx, Fx P w K mg base (G.ats st sx) f cd tb fd) → FnOk P w K mg base (L2.CX P w) 10 (f 43) (fd 43) ["text"] (spM G.no 1 m) } :=
  ⟨_, fun {_ _ _ _ _ _ _ _ _ _} T => fn_okC (N := N_43) (T [] noSx).F_43 sc_43 (T [] noSx).hc_43 fun A outer s H E hr => (ss_cons (st_asg (pg_name (i := 1) sc_43.nd rfl (by first | exact Or.inl rfl | exact Or.inr rfl)) (s_call tk_def (c_42.2 (T [] noSx)) (hr.mono (by decide)) rfl (T [] noSx).g_42 (T [] noSx).F_42.kp (T [] noSx).b_42 (a_cons (s_var 0) a_nil))) (ss_cons (st_tgt (pt := (.tp [3, 4])) (T [] noSx).hk (s_call tk_def (c_40.2 (T [] noSx)) (hr.mono (by decide)) rfl (T [] noSx).g_40 (T [] noSx).F_40.kp (T [] noSx).b_40 (a_cons (s_var 1) (a_cons s_str a_nil))) (pg_tp rfl (gn_cons (pg_name (i := 3) sc_43.nd rfl (by first | exact Or.inl rfl | exact Or.inr rfl)) (gn_cons (pg_name (i := 4) sc_43.nd rfl (by first | exact Or.inl rfl | exact Or.inr rfl)) gn_nil)))) (ss_kind (s_kind tk_def (T [] noSx).a_39 (T [] noSx).mk_39 (fun st sx => c_39000.2 (T st sx)) (hr.mono (by decide)) rfl (T [] noSx).g_39 (T [] noSx).b_39000 (ak_cons s_str (ak_cons (s_add (T [] noSx).hk (s_var 4) s_int) (ak_cons (s_globI rfl (T [] noSx).k_MAX_WRITER) (ak_lam (L := l_1) (T [] noSx).TB_43 rfl rfl (T [] noSx).tm_43 rfl (T [] noSx).tu_43 rfl hf_1 (a_cons (s_globI rfl (T [] noSx).k_MAX_WORD) a_nil)))))) (pg_name (i := 2) sc_43.nd rfl (by first | exact Or.inl rfl | exact Or.inr rfl)) (fun fl cl' cl hcl => (ss_one (st_ret (s_mak tk_def (T [fl] (lamSx fl l_1 cl cl')).a_26 (T [fl] (lamSx fl l_1 cl cl')).mk_26 (c_26000.2 (T [fl] (lamSx fl l_1 cl cl'))) (hr.mono (by decide)) rfl (T [fl] (lamSx fl l_1 cl cl')).g_26 (T [fl] (lamSx fl l_1 cl cl')).b_26000 (a_cons (s_var 3) (a_cons (s_var 4) (a_cons (s_callK (L := l_1) (id := 1) (js := [3]) hcl (T [fl] (lamSx fl l_1 cl cl')).gf rfl (fun _ => rfl) hf_1 (by decide +kernel) rfl tk_def (c_41.2 (T [fl] (lamSx fl l_1 cl cl'))) (hr.mono (by decide)) rfl (T [fl] (lamSx fl l_1 cl cl')).g_41 (T [fl] (lamSx fl l_1 cl cl')).F_41.kp (T [fl] (lamSx fl l_1 cl cl')).b_41 (a_cons (s_var 1) (a_cons (s_var 2) a_nil))) a_nil))))))))))⟩
abbrev N_27000 : List Str := ["self", "signs", "data", "rows"]
theorem sc_27000 : FnScope N_27000 ["self", "signs", "data", "rows"] (defScope s_27000) := ⟨rfl, rfl, rfl, by decide +kernel, rfl, by decide +kernel, by decide +kernel⟩
def c_27000 : { m : Nat → List (Str × D) → List D → T (List (Str × D)) // ∀ {P : Program} {w : World} {K : PySem.W.Frag} {mg : Str → Option Value} {base : Heap} {G : GC} {f cd tb : Nat → Addr} {fd : Nat → FuncData}, Fx P w K mg base G f cd tb fd → FnOk P w K mg base (L2.CX P w) 8 (f 27000) (fd 27000) ["self", "signs", "data", "rows"] (spI G 4 m) } :=
  ⟨_, fun {_ _ _ _ _ _ _ _ _ _} T => fn_initC (N := N_27000) T.F_27000 sc_27000 T.hc_27000 fun A outer s H E hr => (ss_cons (st_if (t_not (t_val T.hk (s_call tk_def (c_20.2 T) (hr.mono (by decide)) rfl T.g_20 T.F_20.kp T.b_20 (a_cons (s_var 1) (a_cons (s_var 2) a_nil))))) (ss_one (st_raise T.hk rfl tk_def PySem.F.excBase_ValueError T.r_5 T.a_5 rfl T.g_5)) ss_nil) (ss_cons (st_if (t_not (t_val T.hk (s_callL T.gf (L := l_4) (id := 4) (js := [2]) rfl (fun _ => rfl) hf_4 (by decide +kernel) rfl tk_def (c_24.2 T) (hr.mono (by decide)) rfl T.g_24 T.F_24.kp T.b_24 (al_cons (s_var 3) (al_lam (L := l_4) (id := 4) (js := [2]) T.TB_27000 rfl rfl T.tm_27000 rfl T.tu_27000 rfl hf_4 (a_cons (s_var 1) (a_cons (s_globI rfl T.k_MAX_READER) a_nil))))))) (ss_one (st_raise T.hk rfl tk_def PySem.F.excBase_ValueError T.r_5 T.a_5 rfl T.g_5)) ss_nil) (ss_one (st_base tk_def rfl T.g_25 T.cr_25.1 T.cr_25.2.1 T.cr_25.2.2 (c_25000.2 T) (hr.mono (by decide)) T.b_25000 (pv 0) (a_cons (s_var 1) (a_cons (s_var 2) (a_cons (s_var 3) a_nil)))))))⟩
abbrev N_44 : List Str := ["text", "lines", "kind", "signs", "data"]
theorem sc_44 : FnScope N_44 ["text"] (defScope s_44) := ⟨rfl, rfl, rfl, by decide +kernel, rfl, by decide +kernel, by decide +kernel⟩
def c_44 : { m : List D → T D // ∀ {P : Program} {w : World} {K : PySem.W.Frag} {mg : Str → Option Value} {base : Heap} {G : GC} {f cd tb : Nat → Addr} {fd : Nat → FuncData}, (∀ st sx, Fx P w K mg base (G.ats st sx) f cd tb fd) → FnOk P w K mg base (L2.CX P w) 10 (f 44) (fd 44) ["text"] (spM G.no 1 m) } :=
  ⟨_, fun {_ _ _ _ _ _ _ _ _ _} T => fn_okC (N := N_44) (T [] noSx).F_44 sc_44 (T [] noSx).hc_44 fun A outer s H E hr => (ss_cons (st_asg (pg_name (i := 1) sc_44.nd rfl (by first | exact Or.inl rfl | exact Or.inr rfl)) (s_call tk_def (c_42.2 (T [] noSx)) (hr.mono (by decide)) rfl (T [] noSx).g_42 (T [] noSx).F_42.kp (T [] noSx).b_42 (a_cons (s_var 0) a_nil))) (ss_cons (st_tgt (pt := (.tp [3, 4])) (T [] noSx).hk (s_call tk_def (c_40.2 (T [] noSx)) (hr.mono (by decide)) rfl (T [] noSx).g_40 (T [] noSx).F_40.kp (T [] noSx).b_40 (a_cons (s_var 1) (a_cons s_str a_nil))) (pg_tp rfl (gn_cons (pg_name (i := 3) sc_44.nd rfl (by first | exact Or.inl rfl | exact Or.inr rfl)) (gn_cons (pg_name (i := 4) sc_44.nd rfl (by first | exact Or.inl rfl | exact Or.inr rfl)) gn_nil)))) (ss_kind (s_kind tk_def (T [] noSx).a_39 (T [] noSx).mk_39 (fun st sx => c_39000.2 (T st sx)) (hr.mono (by decide)) rfl (T [] noSx).g_39 (T [] noSx).b_39000 (ak_cons s_str (ak_cons (s_var 3) (ak_cons (s_globI rfl (T [] noSx).k_MAX_READER) (ak_lam (L := l_2) (T [] noSx).TB_44 rfl rfl (T [] noSx).tm_44 rfl (T [] noSx).tu_44 rfl hf_2 (a_cons (s_globI rfl (T [] noSx).k_MAX_EVENTS) a_nil)))))) (pg_name (i := 2) sc_44.nd rfl (by first | exact Or.inl rfl | exact Or.inr rfl)) (fun fl cl' cl hcl => (ss_one (st_ret (s_mak tk_def (T [fl] (lamSx fl l_2 cl cl')).a_27 (T [fl] (lamSx fl l_2 cl cl')).mk_27 (c_27000.2 (T [fl] (lamSx fl l_2 cl cl'))) (hr.mono (by decide)) rfl (T [fl] (lamSx fl l_2 cl cl')).g_27 (T [fl] (lamSx fl l_2 cl cl')).b_27000 (a_cons (s_var 3) (a_cons (s_var 4) (a_cons (s_callK (L := l_2) (id := 2) (js := [4]) hcl (T [fl] (lamSx fl l_2 cl cl')).gf rfl (fun _ => rfl) hf_2 (by decide +kernel) rfl tk_def (c_41.2 (T [fl] (lamSx fl l_2 cl cl'))) (hr.mono (by decide)) rfl (T [fl] (lamSx fl l_2 cl cl')).g_41 (T [fl] (lamSx fl l_2 cl cl')).F_41.kp (T [fl] (lamSx fl l_2 cl cl')).b_41 (a_cons (s_var 1) (a_cons (s_var 2) a_nil))) a_nil))))))))))⟩
abbrev N_50 : List Str := ["_law_pen_here", "_law_many", "_law_most", "_law_turn"]
theorem sc_50 : FnScope N_50 ["_law_pen_here", "_law_many", "_law_most"] (defScope s_50) := ⟨rfl, rfl, rfl, by decide +kernel, rfl, by decide +kernel, by decide +kernel⟩
def c_50 : { m : List D → T D // ∀ {P : Program} {w : World} {K : PySem.W.Frag} {mg : Str → Option Value} {base : Heap} {G : GC} {f cd tb : Nat → Addr} {fd : Nat → FuncData}, Fx P w K mg base G f cd tb fd → FnOk P w K mg base (L2.CX P w) 3 (f 50) (fd 50) ["_law_pen_here", "_law_many", "_law_most"] (spM G 3 m) } :=
  ⟨_, fun {_ _ _ _ _ _ _ _ _ _} T => fn_ok (N := N_50) T.F_50 sc_50 fun cdv A outer s H E hr => (ss_one (st_ret (s_tuple T.hk rfl T.n_tuple (s_comp (own := [("_law_turn", 3)]) (pt := (.nm 3)) T.hk rfl sc_50.nd (i_range1 rfl T.n_range (s_call tk_def (c_48.2 T) (hr.mono (by decide)) rfl T.g_48 T.F_48.kp T.b_48 (a_cons (s_var 0) (a_cons (s_add T.hk (s_var 2) s_int) a_nil)))) (blkOk_by (N := N_50) (sc := defScope s_50) (by decide +kernel)) (by decide) (fun _ _ _ _ _ => (pg_name (i := 3) sc_50.nd rfl (by first | exact Or.inl rfl | exact Or.inr rfl))) (fun _ _ _ _ _ => pts_yes) (fun _ _ _ _ _ => (s_call tk_no (c_48.2 T) (hr.mono (by decide)) rfl T.g_48 T.F_48.kp T.b_48 (a_cons (s_var 0) (a_cons (s_var 1) a_nil))))))))⟩
abbrev N_51 : List Str := ["_law_pen_here", "_law_kinds", "_law_most", "_law_turn"]
theorem sc_51 : FnScope N_51 ["_law_pen_here", "_law_kinds", "_law_most"] (defScope s_51) := ⟨rfl, rfl, rfl, by decide +kernel, rfl, by decide +kernel, by decide +kernel⟩
def c_51 : { m : List D → T D // ∀ {P : Program} {w : World} {K : PySem.W.Frag} {mg : Str → Option Value} {base : Heap} {G : GC} {f cd tb : Nat → Addr} {fd : Nat → FuncData}, Fx P w K mg base G f cd tb fd → FnOk P w K mg base (L2.CX P w) 3 (f 51) (fd 51) ["_law_pen_here", "_law_kinds", "_law_most"] (spM G 3 m) } :=
  ⟨_, fun {_ _ _ _ _ _ _ _ _ _} T => fn_ok (N := N_51) T.F_51 sc_51 fun cdv A outer s H E hr => (ss_one (st_ret (s_tuple T.hk rfl T.n_tuple (s_comp (own := [("_law_turn", 3)]) (pt := (.nm 3)) T.hk rfl sc_51.nd (i_range1 rfl T.n_range (s_call tk_def (c_48.2 T) (hr.mono (by decide)) rfl T.g_48 T.F_48.kp T.b_48 (a_cons (s_var 0) (a_cons (s_add T.hk (s_var 2) s_int) a_nil)))) (blkOk_by (N := N_51) (sc := defScope s_51) (by decide +kernel)) (by decide) (fun _ _ _ _ _ => (pg_name (i := 3) sc_51.nd rfl (by first | exact Or.inl rfl | exact Or.inr rfl))) (fun _ _ _ _ _ => pts_yes) (fun _ _ _ _ _ => (s_sub (s_call tk_no (c_48.2 T) (hr.mono (by decide)) rfl T.g_48 T.F_48.kp T.b_48 (a_cons (s_var 0) (a_cons (s_add T.hk (s_var 1) s_int) a_nil))) s_int))))))⟩
abbrev N_52 : List Str := ["_law_pen_here", "_law_many", "_law_kinds", "_law_most", "_law_longest_word", "_law_total_here", "_law_table", "_law_state", "_law_row", "_law_thing"]
theorem sc_52 : FnScope N_52 ["_law_pen_here", "_law_many", "_law_kinds", "_law_most", "_law_longest_word"] (defScope s_52) := ⟨rfl, rfl, rfl, by decide +kernel, rfl, by decide +kernel, by decide +kernel⟩
def c_52 : { m : List D → T D // ∀ {P : Program} {w : World} {K : PySem.W.Frag} {mg : Str → Option Value} {base : Heap} {G : GC} {f cd tb : Nat → Addr} {fd : Nat → FuncData}, Fx P w K mg base G f cd tb fd → FnOk P w K mg base (L2.CX P w) 4 (f 52) (fd 52) ["_law_pen_here", "_law_many", "_law_kinds", "_law_most", "_law_longest_word"] (spM G 5 m) } :=
  ⟨_, fun {_ _ _ _ _ _ _ _ _ _} T => fn_ok (N := N_52) T.F_52 sc_52 fun cdv A outer s H E hr => (ss_cons (st_asg (pg_name (i := 5) sc_52.nd rfl (by first | exact Or.inl rfl | exact Or.inr rfl)) (s_add T.hk s_int (s_call tk_def (c_48.2 T) (hr.mono (by decide)) rfl T.g_48 T.F_48.kp T.b_48 (a_cons (s_var 0) (a_cons (s_var 3) a_nil))))) (ss_cons (st_asgO (pg_name (i := 6) sc_52.nd rfl (by first | exact Or.inl rfl | exact Or.inr rfl)) (n_lst a_nil)) (ss_cons (st_for (pt := (.nm 7)) T.hk po_def rfl (i_range1 rfl T.n_range (s_var 5)) (pg_name (i := 7) sc_52.nd rfl (by first | exact Or.inl rfl | exact Or.inr rfl)) (ss_cons (st_asgC (i := 8) (own := [("_law_thing", 9)]) (pt := (.nm 9)) T.hk rfl sc_52.nd rfl rfl rfl (i_range1 rfl T.n_range (s_add T.hk (s_var 2) s_int)) (blkOk_by (N := N_52) (sc := defScope s_52) (by decide +kernel)) (by decide) (fun _ _ _ _ _ => (pg_name (i := 9) sc_52.nd rfl (by first | exact Or.inl rfl | exact Or.inr rfl))) (fun _ _ _ _ _ => pts_yes) (fun _ _ _ _ _ => (s_tup (a_cons (s_call tk_no (c_50.2 T) (hr.mono (by decide)) rfl T.g_50 T.F_50.kp T.b_50 (a_cons (s_var 0) (a_cons (s_var 1) (a_cons (s_var 4) a_nil)))) (a_cons (s_call tk_no (c_48.2 T) (hr.mono (by decide)) rfl T.g_48 T.F_48.kp T.b_48 (a_cons (s_var 0) (a_cons (s_var 5) a_nil))) a_nil))))) (ss_one (st_append T.hk (pv 6) (s_var 8))))) (ss_one (st_frz 6 (st_ret (s_tup (a_cons (s_var 1) (a_cons (s_var 2) (a_cons (s_var 6) a_nil))))))))))⟩
abbrev N_53 : List Str := ["_law_pen_here", "_law_many", "_law_kinds", "_law_most", "_law_most_told", "_law_total_here", "_law_table", "_law_state", "_law_row", "_law_sign"]
theorem sc_53 : FnScope N_53 ["_law_pen_here", "_law_many", "_law_kinds", "_law_most", "_law_most_told"] (defScope s_53) := ⟨rfl, rfl, rfl, by decide +kernel, rfl, by decide +kernel, by decide +kernel⟩
def c_53 : { m : List D → T D // ∀ {P : Program} {w : World} {K : PySem.W.Frag} {mg : Str → Option Value} {base : Heap} {G : GC} {f cd tb : Nat → Addr} {fd : Nat → FuncData}, Fx P w K mg base G f cd tb fd → FnOk P w K mg base (L2.CX P w) 4 (f 53) (fd 53) ["_law_pen_here", "_law_many", "_law_kinds", "_law_most", "_law_most_told"] (spM G 5 m) } :=
  ⟨_, fun {_ _ _ _ _ _ _ _ _ _} T => fn_ok (N := N_53) T.F_53 sc_53 fun cdv A outer s H E hr => (ss_cons (st_asg (pg_name (i := 5) sc_53.nd rfl (by first | exact Or.inl rfl | exact Or.inr rfl)) (s_add T.hk s_int (s_call tk_def (c_48.2 T) (hr.mono (by decide)) rfl T.g_48 T.F_48.kp T.b_48 (a_cons (s_var 0) (a_cons (s_var 3) a_nil))))) (ss_cons (st_asgO (pg_name (i := 6) sc_53.nd rfl (by first | exact Or.inl rfl | exact Or.inr rfl)) (n_lst a_nil)) (ss_cons (st_for (pt := (.nm 7)) T.hk po_def rfl (i_range1 rfl T.n_range (s_var 5)) (pg_name (i := 7) sc_53.nd rfl (by first | exact Or.inl rfl | exact Or.inr rfl)) (ss_cons (st_asgC (i := 8) (own := [("_law_sign", 9)]) (pt := (.nm 9)) T.hk rfl sc_53.nd rfl rfl rfl (i_range1 rfl T.n_range (s_var 1)) (blkOk_by (N := N_53) (sc := defScope s_53) (by decide +kernel)) (by decide) (fun _ _ _ _ _ => (pg_name (i := 9) sc_53.nd rfl (by first | exact Or.inl rfl | exact Or.inr rfl))) (fun _ _ _ _ _ => pts_yes) (fun _ _ _ _ _ => (s_tup (a_cons (s_call tk_no (c_51.2 T) (hr.mono (by decide)) rfl T.g_51 T.F_51.kp T.b_51 (a_cons (s_var 0) (a_cons (s_var 2) (a_cons (s_var 4) a_nil)))) (a_cons (s_call tk_no (c_48.2 T) (hr.mono (by decide)) rfl T.g_48 T.F_48.kp T.b_48 (a_cons (s_var 0) (a_cons (s_var 5) a_nil))) a_nil))))) (ss_one (st_append T.hk (pv 6) (s_var 8))))) (ss_one (st_frz 6 (st_ret (s_tup (a_cons (s_var 1) (a_cons (s_var 2) (a_cons (s_var 6) a_nil))))))))))⟩
abbrev N_54 : List Str := ["_law_machine_here"]
theorem sc_54 : FnScope N_54 ["_law_machine_here"] (defScope s_54) := ⟨rfl, rfl, rfl, by decide +kernel, rfl, by decide +kernel, by decide +kernel⟩
def c_54 : { m : List D → T D // ∀ {P : Program} {w : World} {K : PySem.W.Frag} {mg : Str → Option Value} {base : Heap} {G : GC} {f cd tb : Nat → Addr} {fd : Nat → FuncData}, Fx P w K mg base G f cd tb fd → FnOk P w K mg base (L2.CX P w) 10 (f 54) (fd 54) ["_law_machine_here"] (spM G 1 m) } :=
  ⟨_, fun {_ _ _ _ _ _ _ _ _ _} T => fn_ok (N := N_54) T.F_54 sc_54 fun cdv A outer s H E hr => (ss_one (st_ret (s_mak tk_def T.a_26 T.mk_26 (c_26000.2 T) (hr.mono (by decide)) rfl T.g_26 T.b_26000 (a_cons (s_ix T.hk (hU hr 1) (s_var 0) s_int) (a_cons (s_ix T.hk (hU hr 1) (s_var 0) s_int) (a_cons (s_ix T.hk (hU hr 1) (s_var 0) s_int) a_nil))))))⟩
abbrev N_55 : List Str := ["_law_machine_here"]
theorem sc_55 : FnScope N_55 ["_law_machine_here"] (defScope s_55) := ⟨rfl, rfl, rfl, by decide +kernel, rfl, by decide +kernel, by decide +kernel⟩
def c_55 : { m : List D → T D // ∀ {P : Program} {w : World} {K : PySem.W.Frag} {mg : Str → Option Value} {base : Heap} {G : GC} {f cd tb : Nat → Addr} {fd : Nat → FuncData}, Fx P w K mg base G f cd tb fd → FnOk P w K mg base (L2.CX P w) 10 (f 55) (fd 55) ["_law_machine_here"] (spM G 1 m) } :=
  ⟨_, fun {_ _ _ _ _ _ _ _ _ _} T => fn_ok (N := N_55) T.F_55 sc_55 fun cdv A outer s H E hr => (ss_one (st_ret (s_mak tk_def T.a_27 T.mk_27 (c_27000.2 T) (hr.mono (by decide)) rfl T.g_27 T.b_27000 (a_cons (s_ix T.hk (hU hr 1) (s_var 0) s_int) (a_cons (s_ix T.hk (hU hr 1) (s_var 0) s_int) (a_cons (s_ix T.hk (hU hr 1) (s_var 0) s_int) a_nil))))))⟩
abbrev N_56 : List Str := ["_law_pen_here", "_law_most", "_law_many", "_law_kinds", "_law_is_writer"]
theorem sc_56 : FnScope N_56 ["_law_pen_here", "_law_most"] (defScope s_56) := ⟨rfl, rfl, rfl, by decide +kernel, rfl, by decide +kernel, by decide +kernel⟩
def c_56 : { m : List D → T D // ∀ {P : Program} {w : World} {K : PySem.W.Frag} {mg : Str → Option Value} {base : Heap} {G : GC} {f cd tb : Nat → Addr} {fd : Nat → FuncData}, Fx P w K mg base G f cd tb fd → FnOk P w K mg base (L2.CX P w) 5 (f 56) (fd 56) ["_law_pen_here", "_law_most"] (spM G 2 m) } :=
  ⟨_, fun {_ _ _ _ _ _ _ _ _ _} T => fn_ok (N := N_56) T.F_56 sc_56 fun cdv A outer s H E hr => (ss_cons (st_par3O (i := 2) (j := 3) (l := 4) rfl sc_56.nd rfl rfl rfl (by decide) (by decide) (by decide) rfl rfl rfl (n_q (s_add T.hk s_int (s_call tk_def (c_48.2 T) (hr.mono (by decide)) rfl T.g_48 T.F_48.kp T.b_48 (a_cons (s_var 0) (a_cons s_int a_nil))))) (n_q (s_add T.hk s_int (s_call tk_def (c_48.2 T) (hr.mono (by decide)) rfl T.g_48 T.F_48.kp T.b_48 (a_cons (s_var 0) (a_cons s_int a_nil))))) (n_q (s_eq T.hk (hU hr 64) (s_weak (s_call tk_def (c_48.2 T) (hr.mono (by decide)) rfl T.g_48 T.F_48.kp T.b_48 (a_cons (s_var 0) (a_cons s_int a_nil)))) (s_weak s_int))) rfl) (ss_cons (st_if (t_val T.hk (s_var 4)) (ss_one (st_ret (s_tup (a_cons (s_call tk_def (c_52.2 T) (hr.mono (by decide)) rfl T.g_52 T.F_52.kp T.b_52 (a_cons (s_var 0) (a_cons (s_var 2) (a_cons (s_var 3) (a_cons (s_var 1) (a_cons s_int a_nil)))))) (a_cons s_bl a_nil))))) ss_nil) (ss_one (st_ret (s_tup (a_cons (s_call tk_def (c_53.2 T) (hr.mono (by decide)) rfl T.g_53 T.F_53.kp T.b_53 (a_cons (s_var 0) (a_cons (s_var 2) (a_cons (s_var 3) (a_cons (s_var 1) (a_cons s_int a_nil)))))) (a_cons s_bl a_nil)))))))⟩
abbrev N_57 : List Str := ["_law_machine_here", "_law_is_writer"]
theorem sc_57 : FnScope N_57 ["_law_machine_here", "_law_is_writer"] (defScope s_57) := ⟨rfl, rfl, rfl, by decide +kernel, rfl, by decide +kernel, by decide +kernel⟩
def c_57 : { m : List D → T D // ∀ {P : Program} {w : World} {K : PySem.W.Frag} {mg : Str → Option Value} {base : Heap} {G : GC} {f cd tb : Nat → Addr} {fd : Nat → FuncData}, Fx P w K mg base G f cd tb fd → FnOk P w K mg base (L2.CX P w) 11 (f 57) (fd 57) ["_law_machine_here", "_law_is_writer"] (spM G 2 m) } :=
  ⟨_, fun {_ _ _ _ _ _ _ _ _ _} T => fn_ok (N := N_57) T.F_57 sc_57 fun cdv A outer s H E hr => (ss_one (st_ret (s_ifExp (t_val T.hk (s_var 1)) (s_call tk_def (c_54.2 T) (hr.mono (by decide)) rfl T.g_54 T.F_54.kp T.b_54 (a_cons (s_var 0) a_nil)) (s_call tk_def (c_55.2 T) (hr.mono (by decide)) rfl T.g_55 T.F_55.kp T.b_55 (a_cons (s_var 0) a_nil)))))⟩
abbrev N_58 : List Str := ["_law_items_here", "_law_words", "_law_one"]
theorem sc_58 : FnScope N_58 ["_law_items_here"] (defScope s_58) := ⟨rfl, rfl, rfl, by decide +kernel, rfl, by decide +kernel, by decide +kernel⟩
def c_58 : { m : List D → T D // ∀ {P : Program} {w : World} {K : PySem.W.Frag} {mg : Str → Option Value} {base : Heap} {G : GC} {f cd tb : Nat → Addr} {fd : Nat → FuncData}, Fx P w K mg base G f cd tb fd → FnOk P w K mg base (L2.CX P w) 1 (f 58) (fd 58) ["_law_items_here"] (spM G 1 m) } :=
  ⟨_, fun {_ _ _ _ _ _ _ _ _ _} T => fn_ok (N := N_58) T.F_58 sc_58 fun cdv A outer s H E hr => (ss_cons (st_asg (pg_name (i := 1) sc_58.nd rfl (by first | exact Or.inl rfl | exact Or.inr rfl)) (s_new (n_disp2K (s_neg s_int) s_str (s_neg s_int) s_str))) (ss_one (st_ret (s_ifExp (t_ne T.hk (hU hr 64) (s_weak (s_var 0)) (s_weak (s_tup a_nil))) (s_join T.hk s_str (s_comp (own := [("_law_one", 2)]) (pt := (.nm 2)) T.hk rfl sc_58.nd (i_seq T.hk (s_var 0)) (blkOk_by (N := N_58) (sc := defScope s_58) (by decide +kernel)) (by decide) (fun _ _ _ _ _ => (pg_name (i := 2) sc_58.nd rfl (by first | exact Or.inl rfl | exact Or.inr rfl))) (fun _ _ _ _ _ => pts_yes) (fun _ _ _ _ _ => (s_getDK (hU hr 1) (s_var 1) (s_var 2) (s_strI rfl T.n_str (s_var 2)))))) s_str))))⟩
abbrev N_59 : List Str := ["_law_machine_here", "_law_is_writer", "_law_found", "_law_row", "_law_items_here", "_law_later"]
theorem sc_59 : FnScope N_59 ["_law_machine_here", "_law_is_writer"] (defScope s_59) := ⟨rfl, rfl, rfl, by decide +kernel, rfl, by decide +kernel, by decide +kernel⟩
def c_59 : { m : List D → T D // ∀ {P : Program} {w : World} {K : PySem.W.Frag} {mg : Str → Option Value} {base : Heap} {G : GC} {f cd tb : Nat → Addr} {fd : Nat → FuncData}, Fx P w K mg base G f cd tb fd → FnOk P w K mg base (L2.CX P w) 2 (f 59) (fd 59) ["_law_machine_here", "_law_is_writer"] (spM G 2 m) } :=
  ⟨_, fun {_ _ _ _ _ _ _ _ _ _} T => fn_ok (N := N_59) T.F_59 sc_59 fun cdv A outer s H E hr => (ss_cons (st_asgO (pg_name (i := 2) sc_59.nd rfl (by first | exact Or.inl rfl | exact Or.inr rfl)) (n_lst (a_cons (s_add T.hk (s_add T.hk (s_add T.hk (s_ifExp (t_val T.hk (s_var 1)) s_str s_str) (s_strI rfl T.n_str (s_ix T.hk (hU hr 1) (s_var 0) s_int))) s_str) (s_strI rfl T.n_str (s_ix T.hk (hU hr 1) (s_var 0) s_int))) a_nil))) (ss_cons (st_for (pt := (.nm 3)) T.hk po_def rfl (i_seq T.hk (s_ix T.hk (hU hr 1) (s_var 0) s_int)) (pg_name (i := 3) sc_59.nd rfl (by first | exact Or.inl rfl | exact Or.inr rfl)) (ss_cons (st_append T.hk (pv 2) s_str) (ss_one (st_asgO (pg_name (i := 2) sc_59.nd rfl (by first | exact Or.inl rfl | exact Or.inr rfl)) (n_addO T.hk (pv 2) (s_comp (own := [("_law_items_here", 4), ("_law_later", 5)]) (pt := (.tp [4, 5])) T.hk rfl sc_59.nd (i_seq T.hk (s_var 3)) (blkOk_by (N := N_59) (sc := defScope s_59) (by decide +kernel)) (by decide) (fun _ _ _ _ _ => (pg_tp rfl (gn_cons (pg_name (i := 4) sc_59.nd rfl (by first | exact Or.inl rfl | exact Or.inr rfl)) (gn_cons (pg_name (i := 5) sc_59.nd rfl (by first | exact Or.inl rfl | exact Or.inr rfl)) gn_nil)))) (fun _ _ _ _ _ => pts_yes) (fun _ _ _ _ _ => (s_add T.hk (s_add T.hk (s_call tk_no (c_58.2 T) (hr.mono (by decide)) rfl T.g_58 T.F_58.kp T.b_58 (a_cons (s_var 4) a_nil)) s_str) (s_strI rfl T.n_str (s_var 5)))))))))) (ss_one (st_frz 2 (st_ret (s_var 2))))))⟩
abbrev N_26004 : List Str := ["self", "other"]
theorem sc_26004 : FnScope N_26004 ["self", "other"] (defScope s_26004) := ⟨rfl, rfl, rfl, by decide +kernel, rfl, by decide +kernel, by decide +kernel⟩
def c_26004 : { m : List D → T D // ∀ {P : Program} {w : World} {K : PySem.W.Frag} {mg : Str → Option Value} {base : Heap} {G : GC} {f cd tb : Nat → Addr} {fd : Nat → FuncData}, Fx P w K mg base G f cd tb fd → FnOk P w K mg base (L2.CX P w) 1 (f 26004) (fd 26004) ["self", "other"] (spM G 2 m) } :=
  ⟨_, fun {_ _ _ _ _ _ _ _ _ _} T => fn_ok (N := N_26004) T.F_26004 sc_26004 fun cdv A outer s H E hr => (ss_cons (st_if (L2.PW.pt (t_or (t_not (t_val T.hk (s_isi T.hk T.TF T.TB rfl T.n_isinstance (a_cons (s_var 1) (a_cons (s_globC rfl T.g_26 T.a_26) a_nil))))) (t_or1 (t_ne T.hk (hU hr 64) (s_weak (s_tup (a_cons (s_fld [0, 1, 2, 3] T.hk T.fl_letters (s_var 0)) (a_cons (s_fld [0, 1, 2, 3] T.hk T.fl_kinds (s_var 0)) a_nil)))) (s_weak (s_tup (a_cons (s_fld [0, 1, 2, 3] T.hk T.fl_letters (s_var 1)) (a_cons (s_fld [0, 1, 2, 3] T.hk T.fl_kinds (s_var 1)) a_nil)))))))) (ss_one (st_ret s_bl)) ss_nil) (ss_one (st_ret (s_eq T.hk (hU hr 64) (s_weak (s_fld [0, 1, 2, 3] T.hk T.fl_table (s_var 0))) (s_weak (s_fld [0, 1, 2, 3] T.hk T.fl_table (s_var 1)))))))⟩
abbrev N_27004 : List Str := ["self", "other"]
theorem sc_27004 : FnScope N_27004 ["self", "other"] (defScope s_27004) := ⟨rfl, rfl, rfl, by decide +kernel, rfl, by decide +kernel, by decide +kernel⟩
def c_27004 : { m : List D → T D // ∀ {P : Program} {w : World} {K : PySem.W.Frag} {mg : Str → Option Value} {base : Heap} {G : GC} {f cd tb : Nat → Addr} {fd : Nat → FuncData}, Fx P w K mg base G f cd tb fd → FnOk P w K mg base (L2.CX P w) 1 (f 27004) (fd 27004) ["self", "other"] (spM G 2 m) } :=
  ⟨_, fun {_ _ _ _ _ _ _ _ _ _} T => fn_ok (N := N_27004) T.F_27004 sc_27004 fun cdv A outer s H E hr => (ss_cons (st_if (L2.PW.pt (t_or (t_not (t_val T.hk (s_isi T.hk T.TF T.TB rfl T.n_isinstance (a_cons (s_var 1) (a_cons (s_globC rfl T.g_27 T.a_27) a_nil))))) (t_or1 (t_ne T.hk (hU hr 64) (s_weak (s_tup (a_cons (s_fld [0, 1, 2, 3] T.hk T.fl_letters (s_var 0)) (a_cons (s_fld [0, 1, 2, 3] T.hk T.fl_kinds (s_var 0)) a_nil)))) (s_weak (s_tup (a_cons (s_fld [0, 1, 2, 3] T.hk T.fl_letters (s_var 1)) (a_cons (s_fld [0, 1, 2, 3] T.hk T.fl_kinds (s_var 1)) a_nil)))))))) (ss_one (st_ret s_bl)) ss_nil) (ss_one (st_ret (s_eq T.hk (hU hr 64) (s_weak (s_fld [0, 1, 2, 3] T.hk T.fl_table (s_var 0))) (s_weak (s_fld [0, 1, 2, 3] T.hk T.fl_table (s_var 1)))))))⟩
abbrev N_60 : List Str := ["_law_script", "_law_pen_here", "_law_wide", "_law_tall", "_law_cases", "_law_turn", "_law_machine_here", "_law_is_writer", "_law_again", "_law_k", "_law_made_here", "_law_due", "_law_text", "_law_found", "_law_j"]
theorem sc_60 : FnScope N_60 ["_law_script"] (defScope s_60) := ⟨rfl, rfl, rfl, by decide +kernel, rfl, by decide +kernel, by decide +kernel⟩
theorem h_60 {P : Program} {w : World} {K : PySem.W.Frag} {mg : Str → Option Value} {base : Heap} {G : GC} {f cd tb : Nat → Addr} {fd : Nat → FuncData} (T : ∀ st sx, Fx P w K mg base (G.ats st sx) f cd tb fd) (cdv : Value) (A : Around) (outer : List PySem.Env) (s : Shared) (H : Hp) (E : XK) (hr : Room 11 (A.deeper (envOfC "law" (defScope s_60) s.heap.objs.size (f 60) cdv))) : PS (cxOf (L2.CX P w) P w K mg base N_60 "law" (defScope s_60) (f 60) cdv A outer s H E) (hd0 s_60) (tAsg (tCall (spPen K) [] E0 (L2.tCons (L2.tVar 0) L2.tNil)) (gName 1)) :=
  ps_asg (pe_call (Stp.ok_pen (T [] noSx).F_46 (T [] noSx).TP) (hr.mono (by decide)) rfl (T [] noSx).g_46 (T [] noSx).F_46.kp (T [] noSx).b_46 .nil pass0 (pa_cons (pv 0) pa_nil)) (pg_name (i := 1) sc_60.nd rfl (by first | exact Or.inl rfl | exact Or.inr rfl))
def b_60 : { m : Pu.Env → T Fl // ∀ {P : Program} {w : World} {K : PySem.W.Frag} {mg : Str → Option Value} {base : Heap} {G : GC} {f cd tb : Nat → Addr} {fd : Nat → FuncData}, (∀ st sx, Fx P w K mg base (G.ats st sx) f cd tb fd) → ∀ (cdv : Value) (A : Around) (outer : List PySem.Env) (s : Shared) (H : Hp) (E : XK), Room 11 (A.deeper (envOfC "law" (defScope s_60) s.heap.objs.size (f 60) cdv)) → (A.deeper (envOfC "law" (defScope s_60) s.heap.objs.size (f 60) cdv)).guards = some [] → PSs (cxOf (L2.CX P w) P w K mg base N_60 "law" (defScope s_60) (f 60) cdv A outer s H E) (tl0 s_60) (tS G.no (fun cls d _ H => E cls d H) m) } :=
  ⟨_, fun {_ _ _ _ _ _ _ _ _ _} T cdv A outer s H E hr hgd => (ss_cons (st_asgC (i := 2) (own := [("_law_k", 9)]) (pt := (.nm 9)) (T [] noSx).hk rfl sc_60.nd rfl rfl rfl (i_range1 rfl (T [] noSx).n_range s_int) (blkOk_by (N := N_60) (sc := defScope s_60) (by decide +kernel)) (by decide) (fun _ _ _ _ _ => (pg_name (i := 9) sc_60.nd rfl (by first | exact Or.inl rfl | exact Or.inr rfl))) (fun _ _ _ _ _ => pts_yes) (fun _ _ _ _ _ => (s_comp (own := [("_law_j", 14)]) (pt := (.nm 14)) (T [] noSx).hk rfl sc_60.nd (i_range1 rfl (T [] noSx).n_range s_int) (blkOk_by (by rfl)) (by decide) (fun _ _ _ _ _ => (pg_name (i := 14) sc_60.nd rfl (by first | exact Or.inl rfl | exact Or.inr rfl))) (fun _ _ _ _ _ => pts_yes) (fun _ _ _ _ _ => (s_tup (a_cons (s_mul (T [] noSx).hk (s_tup (a_cons s_int a_nil)) s_int) (a_cons (s_mod (s_intF rfl (T [] noSx).n_int (s_add (T [] noSx).hk (s_var 9) s_int)) s_int) a_nil))))))) (ss_cons (st_asgC (i := 3) (own := [("_law_k", 9)]) (pt := (.nm 9)) (T [] noSx).hk rfl sc_60.nd rfl rfl rfl (i_range1 rfl (T [] noSx).n_range s_int) (blkOk_by (N := N_60) (sc := defScope s_60) (by decide +kernel)) (by decide) (fun _ _ _ _ _ => (pg_name (i := 9) sc_60.nd rfl (by first | exact Or.inl rfl | exact Or.inr rfl))) (fun _ _ _ _ _ => pts_yes) (fun _ _ _ _ _ => (s_comp (own := [("_law_j", 14)]) (pt := (.nm 14)) (T [] noSx).hk rfl sc_60.nd (i_range1 rfl (T [] noSx).n_range s_int) (blkOk_by (by rfl)) (by decide) (fun _ _ _ _ _ => (pg_name (i := 14) sc_60.nd rfl (by first | exact Or.inl rfl | exact Or.inr rfl))) (fun _ _ _ _ _ => pts_yes) (fun _ _ _ _ _ => (s_tup (a_cons (s_tup (a_cons (s_neg s_int) (a_cons (s_neg s_int) (a_cons s_int (a_cons s_int (a_cons s_int (a_cons s_int (a_cons s_int (a_cons s_int a_nil))))))))) (a_cons (s_sub s_int (s_var 9)) a_nil))))))) (ss_cons (st_asgO (pg_name (i := 4) sc_60.nd rfl (by first | exact Or.inl rfl | exact Or.inr rfl)) (n_lst (a_cons (s_tup (a_cons (s_tup (a_cons s_int (a_cons s_int (a_cons (s_var 2) a_nil)))) (a_cons s_bl a_nil))) (a_cons (s_tup (a_cons (s_tup (a_cons s_int (a_cons s_int (a_cons (s_var 3) a_nil)))) (a_cons s_bl a_nil))) (a_cons (s_tup (a_cons (s_tup (a_cons s_int (a_cons s_int (a_cons (s_lst (a_cons (s_lst (a_cons (s_tup (a_cons (s_tup a_nil) (a_cons s_int a_nil))) (a_cons (s_tup (a_cons (s_tup a_nil) (a_cons s_int a_nil))) a_nil))) a_nil)) a_nil)))) (a_cons s_bl a_nil))) a_nil))))) (ss_cons (st_append (T [] noSx).hk (pv 4) (s_tup (a_cons (s_tup (a_cons s_int (a_cons s_int (a_cons (s_lst (a_cons (s_lst (a_cons (s_tup (a_cons (s_tup (a_cons (s_neg s_int) a_nil)) (a_cons s_int a_nil))) (a_cons (s_tup (a_cons (s_tup a_nil) (a_cons s_int a_nil))) a_nil))) a_nil)) a_nil)))) (a_cons s_bl a_nil)))) (ss_cons (st_for (pt := (.nm 5)) (T [] noSx).hk po_def rfl (i_range1 rfl (T [] noSx).n_range s_int) (pg_name (i := 5) sc_60.nd rfl (by first | exact Or.inl rfl | exact Or.inr rfl)) (ss_one (st_append (T [] noSx).hk (pv 4) (s_call tk_def (c_56.2 (T [] noSx)) (hr.mono (by decide)) rfl (T [] noSx).g_56 (T [] noSx).F_56.kp (T [] noSx).b_56 (a_cons (s_var 1) (a_cons s_int a_nil)))))) (ss_cons (st_frz 4 (st_for (pt := (.tp [6, 7])) (T [] noSx).hk po_def rfl (i_seq (T [] noSx).hk (s_var 4)) (pg_tp rfl (gn_cons (pg_name (i := 6) sc_60.nd rfl (by first | exact Or.inl rfl | exact Or.inr rfl)) (gn_cons (pg_name (i := 7) sc_60.nd rfl (by first | exact Or.inl rfl | exact Or.inr rfl)) gn_nil))) (ss_cons (st_parO (i := 10) (j := 11) rfl sc_60.nd rfl rfl (by decide) rfl rfl (n_q (s_call tk_def (c_57.2 (T [] noSx)) (hr.mono (by decide)) rfl (T [] noSx).g_57 (T [] noSx).F_57.kp (T [] noSx).b_57 (a_cons (s_var 6) (a_cons (s_var 7) a_nil)))) (n_q (s_join (T [] noSx).hk s_str (s_call tk_def (c_59.2 (T [] noSx)) (hr.mono (by decide)) rfl (T [] noSx).g_59 (T [] noSx).F_59.kp (T [] noSx).b_59 (a_cons (s_var 6) (a_cons (s_var 7) a_nil))))) rfl) (ss_one (st_for (pt := (.nm 8)) (T [] noSx).hk po_def rfl (i_range1 rfl (T [] noSx).n_range s_int) (pg_name (i := 8) sc_60.nd rfl (by first | exact Or.inl rfl | exact Or.inr rfl)) (ss_cons (st_asg (pg_name (i := 12) sc_60.nd rfl (by first | exact Or.inl rfl | exact Or.inr rfl)) (s_ifExp (t_val (T [] noSx).hk (s_var 7)) (s_call tk_def (c_34.2 (T [] noSx)) (hr.mono (by decide)) rfl (T [] noSx).g_34 (T [] noSx).F_34.kp (T [] noSx).b_34 (a_cons (s_var 10) a_nil)) (s_call tk_def (c_35.2 (T [] noSx)) (hr.mono (by decide)) rfl (T [] noSx).g_35 (T [] noSx).F_35.kp (T [] noSx).b_35 (a_cons (s_var 10) a_nil)))) (ss_cons (st_asg (pg_name (i := 13) sc_60.nd rfl (by first | exact Or.inl rfl | exact Or.inr rfl)) (s_ifExp (t_val (T [] noSx).hk (s_var 7)) (s_call tk_def (c_43.2 T) (hr.mono (by decide)) rfl (T [] noSx).g_43 (T [] noSx).F_43.kp (T [] noSx).b_43 (a_cons (s_var 11) a_nil)) (s_call tk_def (c_44.2 T) (hr.mono (by decide)) rfl (T [] noSx).g_44 (T [] noSx).F_44.kp (T [] noSx).b_44 (a_cons (s_var 11) a_nil)))) (ss_cons (st_if (L2.PW.pt (t_or (t_ne (T [] noSx).hk (hU hr 64) (s_weak (s_repr (T [] noSx).hk hgd (hU hr 64) rfl (T [] noSx).n_repr (s_weak (s_var 12)))) (s_weak (s_repr (T [] noSx).hk hgd (hU hr 64) rfl (T [] noSx).n_repr (s_weak (s_var 11))))) (t_or (t_neU (T [] noSx).hk (hU hr 64) (oel_cons (op_on (T [] noSx).hk (T [] noSx).TF (T [] noSx).a_26 (T [] noSx).e_26 (c_26004.2 (T [] noSx)) (hr.mono (by decide)) (T [] noSx).b_26004) (oel_cons (op_on (T [] noSx).hk (T [] noSx).TF (T [] noSx).a_27 (T [] noSx).e_27 (c_27004.2 (T [] noSx)) (hr.mono (by decide)) (T [] noSx).b_27004) oel_nil)) (s_var 13) (s_var 10)) (t_or1 (t_neU (T [] noSx).hk (hU hr 64) (oel_cons (op_on (T [] noSx).hk (T [] noSx).TF (T [] noSx).a_26 (T [] noSx).e_26 (c_26004.2 (T [] noSx)) (hr.mono (by decide)) (T [] noSx).b_26004) (oel_cons (op_on (T [] noSx).hk (T [] noSx).TF (T [] noSx).a_27 (T [] noSx).e_27 (c_27004.2 (T [] noSx)) (hr.mono (by decide)) (T [] noSx).b_27004) oel_nil)) (s_var 10) (s_call tk_def (c_57.2 (T [] noSx)) (hr.mono (by decide)) rfl (T [] noSx).g_57 (T [] noSx).F_57.kp (T [] noSx).b_57 (a_cons (s_var 6) (a_cons (s_var 7) a_nil)))))))) (ss_one (st_ret s_bl)) ss_nil) (ss_cons (st_if (L2.PW.pt (t_or (t_ne (T [] noSx).hk (hU hr 64) (s_weak (s_isi (T [] noSx).hk (T [] noSx).TF (T [] noSx).TB rfl (T [] noSx).n_isinstance (a_cons (s_var 13) (a_cons (s_globC rfl (T [] noSx).g_26 (T [] noSx).a_26) a_nil)))) (s_weak (s_var 7))) (t_or1 (t_eq (T [] noSx).hk (hU hr 64) (s_weak (s_isi (T [] noSx).hk (T [] noSx).TF (T [] noSx).TB rfl (T [] noSx).n_isinstance (a_cons (s_var 13) (a_cons (s_globC rfl (T [] noSx).g_27 (T [] noSx).a_27) a_nil)))) (s_weak (s_var 7)))))) (ss_one (st_ret s_bl)) ss_nil) (ss_one (st_if (t_ne (T [] noSx).hk (hU hr 64) (s_weak (s_repr (T [] noSx).hk hgd (hU hr 64) rfl (T [] noSx).n_repr (s_weak (s_lst (a_cons (s_prop [0, 1, 2] (T [] noSx).hk (T [] noSx).p_rows (c_25003.2 (T [] noSx)) (hr.mono (by decide)) (T [] noSx).b_25003 (s_var 13)) (a_cons (s_prop [0, 1, 2] (T [] noSx).hk (T [] noSx).p_signs (c_25001.2 (T [] noSx)) (hr.mono (by decide)) (T [] noSx).b_25001 (s_var 13)) (a_cons (s_prop [0, 1, 2] (T [] noSx).hk (T [] noSx).p_data (c_25002.2 (T [] noSx)) (hr.mono (by decide)) (T [] noSx).b_25002 (s_var 13)) a_nil))))))) (s_weak (s_repr (T [] noSx).hk hgd (hU hr 64) rfl (T [] noSx).n_repr (s_weak (s_lst (a_cons (s_ix (T [] noSx).hk (hU hr 1) (s_var 6) s_int) (a_cons (s_ix (T [] noSx).hk (hU hr 1) (s_var 6) s_int) (a_cons (s_ix (T [] noSx).hk (hU hr 1) (s_var 6) s_int) a_nil)))))))) (ss_one (st_ret s_bl)) ss_nil))))))))))) (ss_one (st_ret s_bl))))))))⟩
theorem c_60 {P : Program} {w : World} {K : PySem.W.Frag} {mg : Str → Option Value} {base : Heap} {G : GC} {f cd tb : Nat → Addr} {fd : Nat → FuncData} (hw : lawOk N_60.length 1 b_60.1) (T : ∀ st sx, Fx P w K mg base (G.ats st sx) f cd tb fd) : FnG P w K mg base 12 (f 60) (fd 60) ["_law_script"] (spLaw G.no) :=
  law_ok (e := Expr.Constant .none 0 ⟨0, 0, 0, 0⟩) (px := ⟨0, 0, 0, 0⟩) (pos := ⟨0, 0, 0, 0⟩) (s0 := hd0 s_60) (rest := tl0 s_60) (N := N_60) (m := b_60.1) (T [] noSx).hk (T [] noSx).F_60 sc_60 rfl rfl (fun cdv A outer s H E hr => h_60 T cdv A outer s H E hr) (fun cdv A outer s H E hr hgd => b_60.2 T cdv A outer s H E hr hgd) hw
end Gx
set_option Elab.async false
set_option linter.all false
set_option maxRecDepth 100000
set_option maxHeartbeats 4000000
namespace Gx
open PySem L2 Stp NdefX LamX Pu
open PyProof.Rows hiding St
def GG (w : World) (K : Fg) : GC := ⟨fun k => k.hash w, K, cNames cTab K, GT K, fnPof LT, fnS_of LT, [], fun _ => []⟩
theorem facts {P : Program} {w : World} {K : Fg} {h base : Heap} {mg : Str → Option Value} (st : List Addr) (sx : Nat → List (Addr × (Heap → Prop))) (c : SaysU pds tfL exL h K) (X : K.In h) (Gm : h.Ns mainGlobals mg) (TBt : ∀ p ∈ tfL, TabB base mg (He.cT K p).1 (He.cT K p).2) : Fx P w K mg base ((GG w K).ats st sx) (fF K) (cdF K) (tbF K) (fun i => fdAt K (fF K i)) :=
  { hk := rfl
    hN := rfl
    TF := tyF_of (tb := cTab) rfl (List.all_eq_true.mp (c.at 0))
    TB := tbF_of (tb := cTab) rfl (List.all_eq_true.mp (c.at 1))
    gf := ⟨fun _ _ _ _ => Iff.rfl⟩
    F_8 := c.df 0 (d := pd_0)
    b_8 := Fun.binds (x := "is_integer") (qual := "is_integer") (st := top 8) (c.df 0 (d := pd_0)) (ps := ["thing"]) fun _ _ _ _ _ _ us hl => match us, hl with | [_], _ => rfl
    g_8 := He.glo_ok X Gm (c.at 3)
    n_isinstance := He.free_ok X Gm (c.at 4)
    n_bool := He.free_ok X Gm (c.at 5)
    n_int := He.free_ok X Gm (c.at 6)
    F_9 := c.df 1 (d := pd_1)
    b_9 := Fun.binds (x := "is_below") (qual := "is_below") (st := top 9) (c.df 1 (d := pd_1)) (ps := ["thing", "count"]) fun _ _ _ _ _ _ us hl => match us, hl with | [_, _], _ => rfl
    g_9 := He.glo_ok X Gm (c.at 7)
    F_10 := c.df 2 (d := pd_2)
    b_10 := Fun.binds (x := "is_word") (qual := "is_word") (st := top 10) (c.df 2 (d := pd_2)) (ps := ["thing", "signs"]) fun _ _ _ _ _ _ us hl => match us, hl with | [_, _], _ => rfl
    g_10 := He.glo_ok X Gm (c.at 8)
    n_all := He.free_ok X Gm (c.at 9)
    n_len := He.free_ok X Gm (c.at 10)
    k_MAX_WORD := He.int_ok X Gm (c.at 11)
    n_tuple := He.free_ok X Gm (c.at 12)
    F_20 := c.df 3 (d := pd_3)
    b_20 := Fun.binds (x := "are_numbers") (qual := "are_numbers") (st := top 20) (c.df 3 (d := pd_3)) (ps := ["signs", "data"]) fun _ _ _ _ _ _ us hl => match us, hl with | [_, _], _ => rfl
    g_20 := He.glo_ok X Gm (c.at 13)
    k_MAX_DATA := He.int_ok X Gm (c.at 14)
    k_MIN_SIGNS := He.int_ok X Gm (c.at 15)
    k_MAX_SIGNS := He.int_ok X Gm (c.at 16)
    F_21 := c.df 4 (d := pd_4)
    b_21 := Fun.binds (x := "are_events") (qual := "are_events") (st := top 21) (c.df 4 (d := pd_4)) (ps := ["thing", "data"]) fun _ _ _ _ _ _ us hl => match us, hl with | [_, _], _ => rfl
    g_21 := He.glo_ok X Gm (c.at 17)
    k_MAX_EVENTS := He.int_ok X Gm (c.at 18)
    k_DROP := He.int_ok X Gm (c.at 19)
    F_22 := c.df 5 (d := pd_5)
    b_22 := Fun.binds (x := "is_move") (qual := "is_move") (st := top 22) (c.df 5 (d := pd_5)) (ps := ["thing", "fits", "states"]) fun _ _ _ _ _ _ us hl => match us, hl with | [_, _, _], _ => rfl
    g_22 := He.glo_ok X Gm (c.at 20)
    F_23 := c.df 6 (d := pd_6)
    b_23 := Fun.binds (x := "is_row") (qual := "is_row") (st := top 23) (c.df 6 (d := pd_6)) (ps := ["thing", "fits", "moves", "states"]) fun _ _ _ _ _ _ us hl => match us, hl with | [_, _, _, _], _ => rfl
    g_23 := He.glo_ok X Gm (c.at 21)
    n_list := He.free_ok X Gm (c.at 22)
    F_24 := c.df 7 (d := pd_7)
    b_24 := Fun.binds (x := "are_rows") (qual := "are_rows") (st := top 24) (c.df 7 (d := pd_7)) (ps := ["thing", "fits", "moves", "most"]) fun _ _ _ _ _ _ us hl => match us, hl with | [_, _, _, _], _ => rfl
    g_24 := He.glo_ok X Gm (c.at 23)
    F_32 := c.df 8 (d := pd_8)
    b_32 := Fun.binds (x := "joined") (qual := "joined") (st := top 32) (c.df 8 (d := pd_8)) (ps := ["items"]) fun _ _ _ _ _ _ us hl => match us, hl with | [_], _ => rfl
    g_32 := He.glo_ok X Gm (c.at 24)
    k_EVENTS := mdB_ok X Gm (fun i => by simp [GG, GC.at, GC.ats, NestedKey.hash]) (by decide) (by decide) (c.at 25)
    n_str := He.free_ok X Gm (c.at 26)
    k_EMPTY := He.str_ok X Gm (c.at 27)
    F_25003 := c.df 9 (d := pd_9)
    b_25003 := Fun.binds (x := "rows") (qual := "Machine.rows") (st := (C8.clsBody (top 25)).getD 3 (.Pass ⟨0, 0, 0, 0⟩)) (c.df 9 (d := pd_9)) (ps := ["self"]) fun _ _ _ _ _ _ us hl => match us, hl with | [_], _ => rfl
    g_25 := He.glo_ok X Gm (c.at 28)
    a_25 := rfl
    g_26 := He.glo_ok X Gm (c.at 29)
    a_26 := rfl
    g_27 := He.glo_ok X Gm (c.at 30)
    a_27 := rfl
    g_39 := He.glo_ok X Gm (c.at 31)
    a_39 := rfl
    fl_table := fld_of (tb := cTab) (xs := ["Machine", "Writer", "Reader", "Kind"]) rfl (by decide) (c.at 32)
    F_25001 := c.df 10 (d := pd_10)
    b_25001 := Fun.binds (x := "signs") (qual := "Machine.signs") (st := (C8.clsBody (top 25)).getD 1 (.Pass ⟨0, 0, 0, 0⟩)) (c.df 10 (d := pd_10)) (ps := ["self"]) fun _ _ _ _ _ _ us hl => match us, hl with | [_], _ => rfl
    fl_letters := fld_of (tb := cTab) (xs := ["Machine", "Writer", "Reader", "Kind"]) rfl (by decide) (c.at 33)
    F_25002 := c.df 11 (d := pd_11)
    b_25002 := Fun.binds (x := "data") (qual := "Machine.data") (st := (C8.clsBody (top 25)).getD 2 (.Pass ⟨0, 0, 0, 0⟩)) (c.df 11 (d := pd_11)) (ps := ["self"]) fun _ _ _ _ _ _ us hl => match us, hl with | [_], _ => rfl
    fl_kinds := fld_of (tb := cTab) (xs := ["Machine", "Writer", "Reader", "Kind"]) rfl (by decide) (c.at 34)
    F_33 := c.df 12 (d := pd_12)
    b_33 := Fun.binds (x := "format_machine") (qual := "format_machine") (st := top 33) (c.df 12 (d := pd_12)) (ps := ["word", "machine"]) fun _ _ _ _ _ _ us hl => match us, hl with | [_, _], _ => rfl
    g_33 := He.glo_ok X Gm (c.at 35)
    p_data := prop_of (tb := cTab) (xs := ["Machine", "Writer", "Reader"]) rfl (by decide) (c.at 36)
    p_signs := prop_of (tb := cTab) (xs := ["Machine", "Writer", "Reader"]) rfl (by decide) (c.at 37)
    p_rows := prop_of (tb := cTab) (xs := ["Machine", "Writer", "Reader"]) rfl (by decide) (c.at 38)
    F_34 := c.df 13 (d := pd_13)
    b_34 := Fun.binds (x := "format_writer") (qual := "format_writer") (st := top 34) (c.df 13 (d := pd_13)) (ps := ["writer"]) fun _ _ _ _ _ _ us hl => match us, hl with | [_], _ => rfl
    g_34 := He.glo_ok X Gm (c.at 39)
    F_35 := c.df 14 (d := pd_14)
    b_35 := Fun.binds (x := "format_reader") (qual := "format_reader") (st := top 35) (c.df 14 (d := pd_14)) (ps := ["reader"]) fun _ _ _ _ _ _ us hl => match us, hl with | [_], _ => rfl
    g_35 := He.glo_ok X Gm (c.at 40)
    F_36 := c.df 15 (d := pd_15)
    b_36 := Fun.binds (x := "integer_of") (qual := "integer_of") (st := top 36) (c.df 15 (d := pd_15)) (ps := ["word"]) fun _ _ _ _ _ _ us hl => match us, hl with | [_], _ => rfl
    g_36 := He.glo_ok X Gm (c.at 41)
    k_FIGURES := He.str_ok X Gm (c.at 42)
    F_37 := c.df 16 (d := pd_16)
    b_37 := Fun.binds (x := "item_of") (qual := "item_of") (st := top 37) (c.df 16 (d := pd_16)) (ps := ["word", "count"]) fun _ _ _ _ _ _ us hl => match us, hl with | [_, _], _ => rfl
    g_37 := He.glo_ok X Gm (c.at 43)
    F_38 := c.df 17 (d := pd_17)
    b_38 := Fun.binds (x := "event_of") (qual := "event_of") (st := top 38) (c.df 17 (d := pd_17)) (ps := ["word", "data"]) fun _ _ _ _ _ _ us hl => match us, hl with | [_, _], _ => rfl
    g_38 := He.glo_ok X Gm (c.at 44)
    F_40 := c.df 18 (d := pd_18)
    b_40 := Fun.binds (x := "first_numbers") (qual := "first_numbers") (st := top 40) (c.df 18 (d := pd_18)) (ps := ["lines", "word"]) fun _ _ _ _ _ _ us hl => match us, hl with | [_, _], _ => rfl
    g_40 := He.glo_ok X Gm (c.at 45)
    F_39001 := c.df 19 (d := pd_19)
    b_39001 := Fun.binds (x := "move_of") (qual := "Kind.move_of") (st := (C8.clsBody (top 39)).getD 1 (.Pass ⟨0, 0, 0, 0⟩)) (c.df 19 (d := pd_19)) (ps := ["self", "line"]) fun _ _ _ _ _ _ us hl => match us, hl with | [_, _], _ => rfl
    fl_most := fld_of (tb := cTab) (xs := ["Machine", "Writer", "Reader", "Kind"]) rfl (by decide) (c.at 46)
    fl_items_of := fld_of (tb := cTab) (xs := ["Machine", "Writer", "Reader", "Kind"]) rfl (by decide) (c.at 47)
    fl_longest := fld_of (tb := cTab) (xs := ["Machine", "Writer", "Reader", "Kind"]) rfl (by decide) (c.at 48)
    F_41 := c.df 20 (d := pd_20)
    b_41 := Fun.binds (x := "read_rows") (qual := "read_rows") (st := top 41) (c.df 20 (d := pd_20)) (ps := ["lines", "kind"]) fun _ _ _ _ _ _ us hl => match us, hl with | [_, _], _ => rfl
    g_41 := He.glo_ok X Gm (c.at 49)
    n_enumerate := He.free_ok X Gm (c.at 50)
    fl_moves := fld_of (tb := cTab) (xs := ["Machine", "Writer", "Reader", "Kind"]) rfl (by decide) (c.at 51)
    m_39_move_of := methC_ok (c.at 52)
    n_max := He.free_ok X Gm (c.at 53)
    F_42 := c.df 21 (d := pd_21)
    b_42 := Fun.binds (x := "lines_of") (qual := "lines_of") (st := top 42) (c.df 21 (d := pd_21)) (ps := ["text"]) fun _ _ _ _ _ _ us hl => match us, hl with | [_], _ => rfl
    g_42 := He.glo_ok X Gm (c.at 54)
    F_39000 := c.df 22 (d := pd_22)
    b_39000 := Fun.binds (x := "__init__") (qual := "Kind.__init__") (st := (C8.clsBody (top 39)).getD 0 (.Pass ⟨0, 0, 0, 0⟩)) (c.df 22 (d := pd_22)) (ps := ["self", "word", "moves", "most", "items", "longest"]) fun _ _ _ _ _ _ us hl => match us, hl with | [_, _, _, _, _, _], _ => rfl
    fl_word := fld_of (tb := cTab) (xs := ["Machine", "Writer", "Reader", "Kind"]) rfl (by decide) (c.at 55)
    F_25000 := c.df 23 (d := pd_23)
    b_25000 := Fun.binds (x := "__init__") (qual := "Machine.__init__") (st := (C8.clsBody (top 25)).getD 0 (.Pass ⟨0, 0, 0, 0⟩)) (c.df 23 (d := pd_23)) (ps := ["self", "signs", "data", "rows"]) fun _ _ _ _ _ _ us hl => match us, hl with | [_, _, _, _], _ => rfl
    F_26000 := c.df 24 (d := pd_24)
    b_26000 := Fun.binds (x := "__init__") (qual := "Writer.__init__") (st := (C8.clsBody (top 26)).getD 0 (.Pass ⟨0, 0, 0, 0⟩)) (c.df 24 (d := pd_24)) (ps := ["self", "signs", "data", "rows"]) fun _ _ _ _ _ _ us hl => match us, hl with | [_, _, _, _], _ => rfl
    hc_26000 := codeB_ok (p := ("Writer", some "__init__")) (c.at 56)
    TB_26000 := TBt ("Writer", some "__init__") (by simp [tfL])
    tm_26000 := (by simp [GG, GT, tbF, GC.at, GC.ats])
    tu_26000 := tu_nd (T := GT K) (of_decide_eq_true (c.at 2)) (q := (tbF K 26000, nm_26000)) (by simp [GT, tbF])
    g_4 := He.glo_ok X Gm (c.at 57)
    a_4 := rfl
    r_4 := raiC_of (c.at 58)
    k_MAX_WRITER := He.int_ok X Gm (c.at 59)
    cr_25 := clfB_ok (x := "Machine") (m := "__init__") (c.at 60)
    F_43 := c.df 25 (d := pd_25)
    b_43 := Fun.binds (x := "parse_writer") (qual := "parse_writer") (st := top 43) (c.df 25 (d := pd_25)) (ps := ["text"]) fun _ _ _ _ _ _ us hl => match us, hl with | [_], _ => rfl
    g_43 := He.glo_ok X Gm (c.at 61)
    hc_43 := codeB_ok (p := ("parse_writer", none)) (c.at 62)
    TB_43 := TBt ("parse_writer", none) (by simp [tfL])
    tm_43 := (by simp [GG, GT, tbF, GC.at, GC.ats])
    tu_43 := tu_nd (T := GT K) (of_decide_eq_true (c.at 2)) (q := (tbF K 43, nm_43)) (by simp [GT, tbF])
    mk_39 := mkrB_ok (c.at 63)
    mk_26 := mkrB_ok (c.at 64)
    F_27000 := c.df 26 (d := pd_26)
    b_27000 := Fun.binds (x := "__init__") (qual := "Reader.__init__") (st := (C8.clsBody (top 27)).getD 0 (.Pass ⟨0, 0, 0, 0⟩)) (c.df 26 (d := pd_26)) (ps := ["self", "signs", "data", "rows"]) fun _ _ _ _ _ _ us hl => match us, hl with | [_, _, _, _], _ => rfl
    hc_27000 := codeB_ok (p := ("Reader", some "__init__")) (c.at 65)
    TB_27000 := TBt ("Reader", some "__init__") (by simp [tfL])
    tm_27000 := (by simp [GG, GT, tbF, GC.at, GC.ats])
    tu_27000 := tu_nd (T := GT K) (of_decide_eq_true (c.at 2)) (q := (tbF K 27000, nm_27000)) (by simp [GT, tbF])
    g_5 := He.glo_ok X Gm (c.at 66)
    a_5 := rfl
    r_5 := raiC_of (c.at 67)
    k_MAX_READER := He.int_ok X Gm (c.at 68)
    F_44 := c.df 27 (d := pd_27)
    b_44 := Fun.binds (x := "parse_reader") (qual := "parse_reader") (st := top 44) (c.df 27 (d := pd_27)) (ps := ["text"]) fun _ _ _ _ _ _ us hl => match us, hl with | [_], _ => rfl
    g_44 := He.glo_ok X Gm (c.at 69)
    hc_44 := codeB_ok (p := ("parse_reader", none)) (c.at 70)
    TB_44 := TBt ("parse_reader", none) (by simp [tfL])
    tm_44 := (by simp [GG, GT, tbF, GC.at, GC.ats])
    tu_44 := tu_nd (T := GT K) (of_decide_eq_true (c.at 2)) (q := (tbF K 44, nm_44)) (by simp [GT, tbF])
    mk_27 := mkrB_ok (c.at 71)
    F_50 := c.df 28 (d := pd_28)
    b_50 := Fun.binds (x := "_law_word") (qual := "_law_word") (st := top 50) (c.df 28 (d := pd_28)) (ps := ["_law_pen_here", "_law_many", "_law_most"]) fun _ _ _ _ _ _ us hl => match us, hl with | [_, _, _], _ => rfl
    g_50 := He.glo_ok X Gm (c.at 72)
    n_range := He.free_ok X Gm (c.at 73)
    F_48 := c.df 29 (d := pd_29)
    b_48 := Fun.binds (x := "_law_draw") (qual := "_law_draw") (st := top 48) (c.df 29 (d := pd_29)) (ps := ["_law_pen_here", "_law_under"]) fun _ _ _ _ _ _ us hl => match us, hl with | [_, _], _ => rfl
    g_48 := He.glo_ok X Gm (c.at 74)
    F_51 := c.df 30 (d := pd_30)
    b_51 := Fun.binds (x := "_law_told_some") (qual := "_law_told_some") (st := top 51) (c.df 30 (d := pd_30)) (ps := ["_law_pen_here", "_law_kinds", "_law_most"]) fun _ _ _ _ _ _ us hl => match us, hl with | [_, _, _], _ => rfl
    g_51 := He.glo_ok X Gm (c.at 75)
    F_52 := c.df 31 (d := pd_31)
    b_52 := Fun.binds (x := "_law_writer") (qual := "_law_writer") (st := top 52) (c.df 31 (d := pd_31)) (ps := ["_law_pen_here", "_law_many", "_law_kinds", "_law_most", "_law_longest_word"]) fun _ _ _ _ _ _ us hl => match us, hl with | [_, _, _, _, _], _ => rfl
    g_52 := He.glo_ok X Gm (c.at 76)
    F_53 := c.df 32 (d := pd_32)
    b_53 := Fun.binds (x := "_law_reader") (qual := "_law_reader") (st := top 53) (c.df 32 (d := pd_32)) (ps := ["_law_pen_here", "_law_many", "_law_kinds", "_law_most", "_law_most_told"]) fun _ _ _ _ _ _ us hl => match us, hl with | [_, _, _, _, _], _ => rfl
    g_53 := He.glo_ok X Gm (c.at 77)
    F_54 := c.df 33 (d := pd_33)
    b_54 := Fun.binds (x := "_law_writer_of") (qual := "_law_writer_of") (st := top 54) (c.df 33 (d := pd_33)) (ps := ["_law_machine_here"]) fun _ _ _ _ _ _ us hl => match us, hl with | [_], _ => rfl
    g_54 := He.glo_ok X Gm (c.at 78)
    F_55 := c.df 34 (d := pd_34)
    b_55 := Fun.binds (x := "_law_reader_of") (qual := "_law_reader_of") (st := top 55) (c.df 34 (d := pd_34)) (ps := ["_law_machine_here"]) fun _ _ _ _ _ _ us hl => match us, hl with | [_], _ => rfl
    g_55 := He.glo_ok X Gm (c.at 79)
    F_56 := c.df 35 (d := pd_35)
    b_56 := Fun.binds (x := "_law_machine") (qual := "_law_machine") (st := top 56) (c.df 35 (d := pd_35)) (ps := ["_law_pen_here", "_law_most"]) fun _ _ _ _ _ _ us hl => match us, hl with | [_, _], _ => rfl
    g_56 := He.glo_ok X Gm (c.at 80)
    F_57 := c.df 36 (d := pd_36)
    b_57 := Fun.binds (x := "_law_made") (qual := "_law_made") (st := top 57) (c.df 36 (d := pd_36)) (ps := ["_law_machine_here", "_law_is_writer"]) fun _ _ _ _ _ _ us hl => match us, hl with | [_, _], _ => rfl
    g_57 := He.glo_ok X Gm (c.at 81)
    F_58 := c.df 37 (d := pd_37)
    b_58 := Fun.binds (x := "_law_items") (qual := "_law_items") (st := top 58) (c.df 37 (d := pd_37)) (ps := ["_law_items_here"]) fun _ _ _ _ _ _ us hl => match us, hl with | [_], _ => rfl
    g_58 := He.glo_ok X Gm (c.at 82)
    F_59 := c.df 38 (d := pd_38)
    b_59 := Fun.binds (x := "_law_lines") (qual := "_law_lines") (st := top 59) (c.df 38 (d := pd_38)) (ps := ["_law_machine_here", "_law_is_writer"]) fun _ _ _ _ _ _ us hl => match us, hl with | [_, _], _ => rfl
    g_59 := He.glo_ok X Gm (c.at 83)
    F_26004 := c.df 39 (d := pd_39)
    b_26004 := Fun.binds (x := "__eq__") (qual := "Writer.__eq__") (st := (C8.clsBody (top 26)).getD 4 (.Pass ⟨0, 0, 0, 0⟩)) (c.df 39 (d := pd_39)) (ps := ["self", "other"]) fun _ _ _ _ _ _ us hl => match us, hl with | [_, _], _ => rfl
    F_27004 := c.df 40 (d := pd_40)
    b_27004 := Fun.binds (x := "__eq__") (qual := "Reader.__eq__") (st := (C8.clsBody (top 27)).getD 4 (.Pass ⟨0, 0, 0, 0⟩)) (c.df 40 (d := pd_40)) (ps := ["self", "other"]) fun _ _ _ _ _ _ us hl => match us, hl with | [_, _], _ => rfl
    F_60 := c.df 41 (d := pd_41)
    b_60 := Fun.binds (x := "law") (qual := "law") (st := top 60) (c.df 41 (d := pd_41)) (ps := ["_law_script"]) fun _ _ _ _ _ _ us hl => match us, hl with | [_], _ => rfl
    g_60 := He.glo_ok X Gm (c.at 84)
    F_46 := c.df 42 (d := pd_42)
    b_46 := Fun.binds (x := "_law_pen") (qual := "_law_pen") (st := top 46) (c.df 42 (d := pd_42)) (ps := ["_law_script"]) fun _ _ _ _ _ _ us hl => match us, hl with | [_], _ => rfl
    g_46 := He.glo_ok X Gm (c.at 85)
    n_repr := He.free_ok X Gm (c.at 86)
    e_27 := eqB_ok (tb := cTab) rfl (c.at 87)
    e_26 := eqB_ok (tb := cTab) rfl (c.at 88)
    F_47 := c.df 43 (d := pd_43)
    b_47 := Fun.binds (x := "_law_next") (qual := "_law_next") (st := top 47) (c.df 43 (d := pd_43)) (ps := ["_law_pen_here"]) fun _ _ _ _ _ _ us hl => match us, hl with | [_], _ => rfl
    g_47 := He.glo_ok X Gm (c.at 89)
    TP := ⟨He.free_ok X Gm (c.at 22), He.free_ok X Gm (c.at 6), He.free_ok X Gm (c.at 10)⟩ }
theorem lawG {w : World} {h : Heap} {mg : Str → Option Value} {fa : Addr} (hw : lawOk N_60.length 1 b_60.1) (Y : hk.says w h) (Gm : h.Ns mainGlobals mg) (hmg : mg "law" = some (.ref fa)) : LawG (PySem.Challenge.rw_stepsagain_k08_texts_of_machines) w 12 mg fa h := by
  obtain ⟨K, KX, c⟩ := Y
  have e := hmg.symm.trans (He.glo_ok KX Gm (c.at 84))
  cases e
  refine ⟨GG w K, fdAt K (He.ga K "law"), tfL.map (He.cT K), KX, fun p hp => ?_, fun p hp => ?_, fun p hp => ?_, fun s u => ?_, fun p hp => ?_, fun base Kb Gb TBt => ?_⟩
  · obtain ⟨q, hq, rfl⟩ := List.mem_map.mp hp
    exact c.empty q hq
  · obtain ⟨q, hq, rfl⟩ := List.mem_map.mp hp
    exact c.out q hq
  · obtain ⟨q, hq, rfl⟩ := List.mem_map.mp hp
    exact PySem.W.codeHd_of_K KX (c.hd q hq)
  · obtain ⟨oc, od, kV, doc, pm, an, cdv, ct, osl, e1, lk, hcd⟩ := (c.df 41 (d := pd_41)).ex
    have e2 : fdAt K (He.ga K "law") = _ := e1
    rw [e2]
    exact .of_eq rfl
  · have e : (GT K).map (·.1) = (tfL.map (He.cT K)).map (·.2) := by rfl
    have m : p.1 ∈ (GT K).map (·.1) := List.mem_map_of_mem hp
    rw [e] at m
    exact m
  · exact c_60 hw (fun st sx => facts st sx c KX Gm fun p hp => TBt _ (List.mem_map_of_mem hp))
theorem law_def : (HandSHeadRun.topDef R.prog 60).name = ("law" : Str) := by kernel_rfl
theorem holds (hw : lawOk N_60.length 1 b_60.1) : PySem.Challenge.rw_stepsagain_k08_texts_of_machines.Holds := by
  open PySem.W PySem.Calls in
  w_on; o_law
  refine HandSHeadRun.head_any (r := R) (q := PySem.W.view R.prog [60]) (H := hk) (ob := ob) (M := 20000) (loose := nms) (d := HandSHeadRun.topDef R.prog 60) (kwd := []) ob_eq
    (by kernel_rfl) (fun s => by kernel_rfl) run (by kernel_rfl) (by kernel_rfl) (by kernel_rfl) (by rfl) (by first | assumption | decide +kernel) (by decide +kernel) ⟨rfl, rfl, rfl, rfl, rfl, by decide +kernel⟩ ?hw ?hc
  case hw => w_witness2
  case hc =>
    refine walkG (l := PySem.Challenge.rw_stepsagain_k08_texts_of_machines) (k := 12) rfl (by kernel_rfl) ⟨rfl, by decide, by decide⟩ ?F
    intro w mg fa h Y Gm hmg0
    rw [law_def] at hmg0
    exact lawG hw Y Gm hmg0
end Gx
set_option Elab.async false
set_option linter.all false
set_option maxRecDepth 100000
set_option maxHeartbeats 600000
namespace Gx
open PySem L2 Stp NdefX LamX Pu
open PyProof.Rows hiding St tupItems
theorem isi_int {d : D} (h : kd d = true) : isiF kTb [d, .ty "int"] = .ret (.bl (isIntD d)) := by
  cases d <;> first | (cases h; done) | kernel_rfl
theorem isi_bool {d : D} (h : kd d = true) : isiF kTb [d, .ty "bool"] = .ret (.bl (isBoolD d)) := by
  cases d <;> first | (cases h; done) | kernel_rfl
theorem isi_tup {d : D} (h : kd d = true) : isiF kTb [d, .ty "tuple"] = .ret (.bl (isTupD d)) := by
  cases d <;> first | (cases h; done) | kernel_rfl
theorem isi_lst {d : D} (h : kd d = true) : isiF kTb [d, .ty "list"] = .ret (.bl (isLstD d)) := by
  cases d <;> first | (cases h; done) | kernel_rfl
theorem e_isint {d : D} (h : kd d = true) : c_8.1 [d] = .ret (.bl (integerB d)) := by
  delta c_8
  dsimp only
  simp [startE, N_8, isi_int h, isi_bool h]
  cases d <;> simp [isIntD, isBoolD, integerB, notD]
theorem e_below {d : D} {k : Int} (h : kd d = true) : c_9.1 [d, .int k] = .ret (.bl (rangeB 0 k d)) := by
  delta c_9
  dsimp only
  simp [startE, N_9, e_isint h]
  cases d <;> simp [integerB, rangeB]
theorem e_nums {s d : D} (h : kd s = true) (h2 : kd d = true) : c_20.1 [s, d] = .ret (.bl (numsB s d)) := by
  delta c_20
  dsimp only
  simp [startE, N_20, e_isint h, e_isint h2]
  cases s <;> cases d <;> simp [integerB, rangeB, numsB]
theorem e_word {d : D} {k : Int} (h : okD d = true) : c_10.1 [d, .int k] = .ret (.bl (wordB k d)) := by
  delta c_10
  dsimp only
  simp [startE, N_10, isi_tup (okD_kd h)]
  cases d <;> first | (simp [isTupD, wordB, tupItems]; done) | skip
  all_goals
    rename_i xs
    simp at h
    simp [isTupD, wordB, tupItems]
    by_cases hl : (xs.length : Int) ≤ 12
    · rw [grd_pos (by unfold big; omega), compL_map (f := fun x => .bl (rangeB 0 k x)) fun y hy => ⟨_, rfl, rfl, by simp [e_below (okD_kd (okL_iff.mp h y hy))]⟩]
      simp [hl]
    · simp [hl]
theorem e_events {d : D} {k : Int} (h : okD d = true) : c_21.1 [d, .int k] = .ret (.bl (eventsB k d)) := by
  delta c_21
  dsimp only
  simp [startE, N_21, isi_tup (okD_kd h)]
  cases d <;> first | (simp [isTupD, eventsB, tupItems]; done) | skip
  all_goals
    rename_i xs
    simp at h
    simp [isTupD, eventsB, tupItems]
    by_cases hl : (xs.length : Int) ≤ 8
    · rw [grd_pos (by unfold big; omega), compL_map (f := fun x => .bl (rangeB (-2) k x)) fun y hy => ⟨_, rfl, rfl, by simp [e_isint (okD_kd (okL_iff.mp h y hy))]; cases y <;> simp [integerB, rangeB]⟩]
      simp [hl, Int.not_lt.mpr hl]
    · simp [hl, Int.not_le.mp hl]
/-- the lambda that is handed on -/
def FitsL (L : LamL) (fn : D) (fb : D → Bool) : Prop := ∃ id cs, fn = .fn id cs ∧ ∀ d, okD d = true → callV L (.fn id cs) [d] = .ret (.bl (fb d))
theorem e_move {d fn : D} {fb : D → Bool} {n : Int} (hf : FitsL [(3, 1, lc_3.1), (4, 1, lc_4.1)] fn fb) (h : okD d = true) : c_22.1 [d, fn, .int n] = .ret (.bl (moveB fb n d)) := by
  obtain ⟨id, cs, rfl, hf⟩ := hf
  delta c_22
  dsimp only
  simp [startE, N_22, isi_tup (okD_kd h)]
  cases d <;> first | (simp [isTupD, moveB, tupItems]; done) | skip
  all_goals
    rename_i xs
    match xs, h with
    | [], h => simp [isTupD, moveB, tupItems]
    | [a], h => simp [isTupD, moveB, tupItems]
    | [a, b], h =>
      simp at h
      simp [isTupD, moveB, tupItems, callVs, hf a h.1, atI, ixN, e_below (okD_kd h.2)]
    | a :: b :: c :: r, h =>
      have e : ¬ ((r.length : Int) + 1 + 1 + 1 = 2) := by omega
      simp [isTupD, moveB, tupItems, e]
theorem e_row {d fn : D} {fb : D → Bool} {n k : Int} (hf : FitsL [(3, 1, lc_3.1), (4, 1, lc_4.1)] fn fb) (h : okD d = true) (hk : k ≤ 1000) : c_23.1 [d, fn, .int k, .int n] = .ret (.bl (rowB fb k n d)) := by
  delta c_23
  dsimp only
  simp [startE, N_23, isi_lst (okD_kd h)]
  cases d <;> first | (simp [isLstD, rowB]; done) | skip
  rename_i xs
  simp at h
  simp [isLstD, rowB]
  by_cases hl : (xs.length : Int) = k
  · rw [grd_pos (by unfold big; omega), compL_map (f := fun x => .bl (moveB fb n x)) fun y hy => ⟨_, rfl, rfl, by simp [e_move hf (okL_iff.mp h y hy)]⟩]
    simp [hl]
  · simp [hl]
theorem e_rows {d fn : D} {fb : D → Bool} {n k : Int} (hf : FitsL [(3, 1, lc_3.1), (4, 1, lc_4.1)] fn fb) (h : okD d = true) (hk : k ≤ 1000) (hn : n ≤ 1000) : c_24.1 [d, fn, .int k, .int n] = .ret (.bl (rowsB fb k n d)) := by
  delta c_24
  dsimp only
  simp [startE, N_24, isi_lst (okD_kd h)]
  cases d <;> first | (simp [isLstD, rowsB]; done) | skip
  rename_i xs
  simp at h
  simp [isLstD, rowsB]
  by_cases h1 : (1 : Int) ≤ xs.length
  · by_cases h2 : (xs.length : Int) ≤ n
    · rw [grd_pos (by unfold big; omega), compL_map (f := fun x => .bl (rowB fb k xs.length x)) fun y hy => ⟨_, rfl, rfl, by simp [e_row hf (okL_iff.mp h y hy) hk]⟩]
      simp [h1, h2, Int.not_lt.mpr h2]
    · simp [h1, h2]
  · simp [h1]
theorem e_machine {c : Nat} {s d : D} {rs : List D} (hc : c ∈ [0, 1, 2]) (hr : ∀ r ∈ rs, isLstD r = true) (hl : rs.length ≤ big) : c_25000.1 c [] [s, d, .lst rs] = .ret [("letters", s), ("kinds", d), ("table", .lst rs)] := by
  delta c_25000
  dsimp only
  simp at hc
  simp [startI, N_25000, hc]
  rw [grd_pos hl, compL_map (f := id) fun y hy => ⟨_, rfl, rfl, by have := hr y hy; cases y <;> first | (cases this; done) | simp⟩]
  first | (simp; done) | (rcases hc with rfl | rfl | rfl <;> simp)
theorem fitsW {many : Int} : FitsL [(3, 1, lc_3.1), (4, 1, lc_4.1)] (.fn 3 [.int many]) (wordB many) := ⟨_, _, rfl, fun d h => by
  simp [callV, LamL.look, plainL, plainD, okD_plain h]
  delta lc_3
  dsimp only
  simp [startE, e_word h]⟩
theorem fitsR {kinds : Int} : FitsL [(3, 1, lc_3.1), (4, 1, lc_4.1)] (.fn 4 [.int kinds]) (eventsB kinds) := ⟨_, _, rfl, fun d h => by
  simp [callV, LamL.look, plainL, plainD, okD_plain h]
  delta lc_4
  dsimp only
  simp [startE, e_events h]⟩
/-- Writer(..), what it says -/
theorem e_winit {many kinds : D} {t : D} (h1 : kd many = true) (h2 : kd kinds = true) (h3 : okD t = true) : c_26000.1 1 [] [many, kinds, t] = match many, kinds with
    | .int m, .int k => if numsB (.int m) (.int k) = true ∧ rowsB (wordB m) (k + 1) 24 t = true then .ret [("letters", .int m), ("kinds", .int k), ("table", t)] else .ex (.exc 102 [])
    | _, _ => .ex (.exc 102 []) := by
  delta c_26000
  dsimp only
  simp [startI, N_26000, e_nums h1 h2, capsD, callL]
  cases many <;> cases kinds <;> first | (simp [numsB]; done) | skip
  rename_i m k
  by_cases hn : numsB (.int m) (.int k) = true
  · have hk : k + 1 ≤ 1000 := by simp [numsB] at hn; omega
    simp [hn, e_rows fitsW h3 hk (by decide : (24 : Int) ≤ 1000), plainR, plainD]
    by_cases ht : rowsB (wordB m) (k + 1) 24 t = true
    · simp [ht]
      cases t <;> first | (simp [rowsB] at ht; done) | skip
      rename_i rs
      rw [e_machine (by decide) (rowsB_lst ht) (by simp [rowsB] at ht; unfold big; omega)]
      simp
    · simp [ht]
  · simp [hn]
theorem e_rinit {many kinds : D} {t : D} (h1 : kd many = true) (h2 : kd kinds = true) (h3 : okD t = true) : c_27000.1 2 [] [many, kinds, t] = match many, kinds with
    | .int m, .int k => if numsB (.int m) (.int k) = true ∧ rowsB (eventsB k) m 40 t = true then .ret [("letters", .int m), ("kinds", .int k), ("table", t)] else .ex (.exc 103 [])
    | _, _ => .ex (.exc 103 []) := by
  delta c_27000
  dsimp only
  simp [startI, N_27000, e_nums h1 h2, capsD, callL]
  cases many <;> cases kinds <;> first | (simp [numsB]; done) | skip
  rename_i m k
  by_cases hn : numsB (.int m) (.int k) = true
  · have hk : m ≤ 1000 := by simp [numsB] at hn; omega
    simp [hn, e_rows fitsR h3 hk (by decide : (40 : Int) ≤ 1000), plainR, plainD]
    by_cases ht : rowsB (eventsB k) m 40 t = true
    · simp [ht]
      cases t <;> first | (simp [rowsB] at ht; done) | skip
      rename_i rs
      rw [e_machine (by decide) (rowsB_lst ht) (by simp [rowsB] at ht; unfold big; omega)]
      simp
    · simp [ht]
  · simp [hn]
end Gx
set_option Elab.async false
set_option linter.all false
set_option maxRecDepth 100000
set_option maxHeartbeats 600000
namespace Gx
open PySem L2 Stp NdefX LamX Pu
open PyProof.Rows hiding St tupItems
theorem e_writer {m : Mch} (h : WOk m) : c_26000.1 1 [] [.int m.many, .int m.kinds, tabD m.rows] = .ret [("letters", .int m.many), ("kinds", .int m.kinds), ("table", tabD m.rows)] := by
  have h2 : rowsB (wordB m.many) (m.kinds + 1) 24 (tabD m.rows) = true := rowsB_ok (most := 24) h.tab fun w h1 h2 => wordB_ok h1 h2
  rw [e_winit rfl rfl (okD_tabD _)]
  simp [numsB_ok h.num, h2]
theorem e_reader {m : Mch} (h : ROk m) : c_27000.1 2 [] [.int m.many, .int m.kinds, tabD m.rows] = .ret [("letters", .int m.many), ("kinds", .int m.kinds), ("table", tabD m.rows)] := by
  have h2 : rowsB (eventsB m.kinds) m.many 40 (tabD m.rows) = true := rowsB_ok (most := 40) h.tab fun w h1 h2 => eventsB_ok h1 h2
  rw [e_rinit rfl rfl (okD_tabD _)]
  simp [numsB_ok h.num, h2]
theorem e_writer_of {m : Mch} (h : WOk m) : c_54.1 [lawD m] = .ret (objD 1 m) := by
  delta c_54
  dsimp only
  simp [startE, N_54, lawD, atI, ixN, e_writer h, objD]
theorem e_reader_of {m : Mch} (h : ROk m) : c_55.1 [lawD m] = .ret (objD 2 m) := by
  delta c_55
  dsimp only
  simp [startE, N_55, lawD, atI, ixN, e_reader h, objD]
end Gx
set_option Elab.async false
set_option linter.all false
set_option maxRecDepth 100000
set_option maxHeartbeats 600000
namespace Gx
open PySem L2 Stp NdefX LamX Pu
open PyProof.Rows hiding St tupItems
theorem e_draw : c_48.1 = drawF := rfl
theorem d_word {many most : Int} (h1 : 0 < many) (h2 : many < 1000) (h3 : 0 ≤ most) (h4 : most ≤ 100) : Wb 102 (c_50.1 [.pen, .int many, .int most]) (fun _ d => ∃ w, d = .tup (iD w) ∧ (w.length : Int) ≤ most ∧ Within 0 many w) XF := by
  delta c_50
  dsimp only
  simp [startE, N_50, e_draw]
  refine wb_bind (wb_drawF (by omega) (by omega) (by omega) fun i i1 i2 => ?_)
  simp
  refine wb_grd (by omega) (wb_grd (by rw [rngL_len]; unfold big; omega) (wb_bind ((wb_compL 1 (fun _ y => ∃ x, y = .int x ∧ 0 ≤ x ∧ x < many) (by rw [rngL_len]; omega) fun j y hy => ⟨_, rfl, ?_⟩).mono (fun j r _ z => ?_) fun _ _ _ z => z)))
  · simp
    exact wb_drawF (by omega) (by omega) (by omega) fun x x1 x2 => ⟨x, rfl, x1, x2⟩
  · obtain ⟨_, z2, z3⟩ := z
    obtain ⟨w, rfl, hw⟩ := ints_of z3
    refine wb_ret ⟨w, rfl, ?_, hw⟩
    rw [rngL_len, iD_length] at z2
    omega
theorem d_told {kinds most : Int} (h1 : 0 < kinds) (h2 : kinds < 1000) (h3 : 0 ≤ most) (h4 : most ≤ 100) : Wb 102 (c_51.1 [.pen, .int kinds, .int most]) (fun _ d => ∃ w, d = .tup (iD w) ∧ (w.length : Int) ≤ most ∧ Within (-2) kinds w) XF := by
  delta c_51
  dsimp only
  simp [startE, N_51, e_draw]
  refine wb_bind (wb_drawF (by omega) (by omega) (by omega) fun i i1 i2 => ?_)
  simp
  refine wb_grd (by omega) (wb_grd (by rw [rngL_len]; unfold big; omega) (wb_bind ((wb_compL 1 (fun _ y => ∃ x, y = .int x ∧ -2 ≤ x ∧ x < kinds) (by rw [rngL_len]; omega) fun j y hy => ⟨_, rfl, ?_⟩).mono (fun j r _ z => ?_) fun _ _ _ z => z)))
  · simp
    exact wb_bind (wb_drawF (by omega) (by omega) (by omega) fun x x1 x2 => wb_ret ⟨x - 2, rfl, by omega, by omega⟩)
  · obtain ⟨_, z2, z3⟩ := z
    obtain ⟨w, rfl, hw⟩ := ints_of z3
    refine wb_ret ⟨w, rfl, ?_, hw⟩
    rw [rngL_len, iD_length] at z2
    omega
theorem d_writer {many kinds most lng : Int} (h1 : 2 ≤ many) (h2 : many ≤ 6) (k1 : 1 ≤ kinds) (k2 : kinds ≤ 6) (h3 : 1 ≤ most) (h4 : most ≤ 24) (h5 : 0 ≤ lng) (h6 : lng ≤ 12) : Wb 100000 (c_52.1 [.pen, .int many, .int kinds, .int most, .int lng]) (fun _ d => ∃ m, d = lawD m ∧ WOk m ∧ m.many = many ∧ m.kinds = kinds ∧ TabOk m.rows (kinds + 1) 0 many lng.toNat most.toNat) XF := by
  delta c_52
  dsimp only
  simp [startE, N_52, e_draw]
  refine wb_bind (wb_drawF (by omega) (by omega) (by omega) fun i i1 i2 => ?_)
  simp
  refine wb_grd (by omega) ?_
  refine wb_bind (wb_nox (wb_forI 1000 (I_tab many kinds most lng lng (1 + i) (kinds + 1) 0 many) ?_ ?_ ?_ ?_))
  · exact ⟨[], _, _, _, rfl, rfl, fun _ m => nomatch m⟩
  · rw [rngL_len]; omega
  · rintro j d env hd ⟨rs, x, y, z, rfl, hl, hr⟩
    refine ⟨_, rfl, ?_⟩
    obtain ⟨hj, rfl⟩ := rngL_at _ _ _ _ hd
    simp
    refine wb_grd (by omega) (wb_grd (by rw [rngL_len]; unfold big; omega) (wb_bindX ((wb_compL 103 (fun _ => MvX 0 many lng (1 + i)) (by rw [rngL_len]; omega) fun j y hy => ⟨_, rfl, ?_⟩).mono (fun j r _ z => ?_) fun _ _ _ z => z)))
    · simp
      refine wb_bind (wb_call (d_word (many := many) (most := lng) (by omega) (by omega) (by omega) (by omega)) (by omega) ?_)
      rintro _ ⟨w, rfl, w1, w2⟩
      exact wb_bind (wb_drawF (by omega) (by omega) (by omega) fun x x1 x2 => wb_ret ⟨(w, x), rfl, w1, w2, x1, x2⟩)
    · obtain ⟨_, z2, z3⟩ := z
      obtain ⟨r, rfl, hr2⟩ := map_of z3
      refine wb_grd (by unfold big; omega) (wb_ret ⟨rs ++ [r], _, _, _, by rw [List.map_append]; rfl, by simp [hl], fun q hq => ?_⟩)
      rcases List.mem_append.mp hq with hq | hq
      · exact hr q hq
      · rw [List.mem_singleton.mp hq]
        exact ⟨by rw [rngL_len, List.length_map] at z2; omega, hr2⟩
  · rintro e ⟨rs, x, y, z, rfl, hl, hr⟩
    rw [rngL_len] at hl
    simp [frzE_def]
    have ho := rows_ok (n := 1 + i) (most := most) (by omega) (by omega) (by omega) hr
    have hw : TabOk rs (kinds + 1) 0 many 12 24 := ⟨ho.ne, by have := ho.le; omega, ho.row, fun r hr v hv => ⟨by have := (ho.mv r hr v hv).1; omega, (ho.mv r hr v hv).2⟩⟩
    exact wb_ret ⟨⟨many, kinds, rs⟩, rfl, ⟨⟨h1, h2, k1, k2⟩, hw⟩, rfl, rfl, ho⟩
theorem d_reader {many kinds most lng : Int} (h1 : 2 ≤ many) (h2 : many ≤ 6) (k1 : 1 ≤ kinds) (k2 : kinds ≤ 6) (h3 : 1 ≤ most) (h4 : most ≤ 40) (h5 : 0 ≤ lng) (h6 : lng ≤ 8) : Wb 100000 (c_53.1 [.pen, .int many, .int kinds, .int most, .int lng]) (fun _ d => ∃ m, d = lawD m ∧ ROk m ∧ m.many = many ∧ m.kinds = kinds ∧ TabOk m.rows many (-2) kinds lng.toNat most.toNat) XF := by
  delta c_53
  dsimp only
  simp [startE, N_53, e_draw]
  refine wb_bind (wb_drawF (by omega) (by omega) (by omega) fun i i1 i2 => ?_)
  simp
  refine wb_grd (by omega) ?_
  refine wb_bind (wb_nox (wb_forI 1000 (I_tab many kinds most lng lng (1 + i) many (-2) kinds) ?_ ?_ ?_ ?_))
  · exact ⟨[], _, _, _, rfl, rfl, fun _ m => nomatch m⟩
  · rw [rngL_len]; omega
  · rintro j d env hd ⟨rs, x, y, z, rfl, hl, hr⟩
    refine ⟨_, rfl, ?_⟩
    obtain ⟨hj, rfl⟩ := rngL_at _ _ _ _ hd
    simp
    refine wb_grd (by omega) (wb_grd (by rw [rngL_len]; unfold big; omega) (wb_bindX ((wb_compL 103 (fun _ => MvX (-2) kinds lng (1 + i)) (by rw [rngL_len]; omega) fun j y hy => ⟨_, rfl, ?_⟩).mono (fun j r _ z => ?_) fun _ _ _ z => z)))
    · simp
      refine wb_bind (wb_call (d_told (kinds := kinds) (most := lng) (by omega) (by omega) (by omega) (by omega)) (by omega) ?_)
      rintro _ ⟨w, rfl, w1, w2⟩
      exact wb_bind (wb_drawF (by omega) (by omega) (by omega) fun x x1 x2 => wb_ret ⟨(w, x), rfl, w1, w2, x1, x2⟩)
    · obtain ⟨_, z2, z3⟩ := z
      obtain ⟨r, rfl, hr2⟩ := map_of z3
      refine wb_grd (by unfold big; omega) (wb_ret ⟨rs ++ [r], _, _, _, by rw [List.map_append]; rfl, by simp [hl], fun q hq => ?_⟩)
      rcases List.mem_append.mp hq with hq | hq
      · exact hr q hq
      · rw [List.mem_singleton.mp hq]
        exact ⟨by rw [rngL_len, List.length_map] at z2; omega, hr2⟩
  · rintro e ⟨rs, x, y, z, rfl, hl, hr⟩
    rw [rngL_len] at hl
    simp [frzE_def]
    have ho := rows_ok (n := 1 + i) (most := most) (by omega) (by omega) (by omega) hr
    have hw : TabOk rs many (-2) kinds 8 40 := ⟨ho.ne, by have := ho.le; omega, ho.row, fun r hr v hv => ⟨by have := (ho.mv r hr v hv).1; omega, (ho.mv r hr v hv).2⟩⟩
    exact wb_ret ⟨⟨many, kinds, rs⟩, rfl, ⟨⟨h1, h2, k1, k2⟩, hw⟩, rfl, rfl, ho⟩
end Gx
set_option Elab.async false
set_option linter.all false
set_option maxRecDepth 100000
set_option maxHeartbeats 600000
namespace Gx
open PySem L2 Stp NdefX LamX Pu
open PyProof.Rows hiding St tupItems
theorem isi_objW {m : Mch} : isiF kTb [objD 1 m, .cls 1] = .ret (.bl true) := by kernel_rfl
theorem isi_objR {m : Mch} : isiF kTb [objD 2 m, .cls 2] = .ret (.bl true) := by kernel_rfl
theorem e_eqW {m : Mch} : c_26004.1 [objD 1 m, objD 1 m] = .ret (.bl true) := by
  delta c_26004
  dsimp only
  simp [startE, N_26004, isi_objW, eqD_same (nb_tabD m.rows).nb (Nat.le_trans (nb_tabD m.rows).dp (by decide))]
theorem e_eqR {m : Mch} : c_27004.1 [objD 2 m, objD 2 m] = .ret (.bl true) := by
  delta c_27004
  dsimp only
  simp [startE, N_27004, isi_objR, eqD_same (nb_tabD m.rows).nb (Nat.le_trans (nb_tabD m.rows).dp (by decide))]
end Gx
set_option Elab.async false
set_option linter.all false
set_option maxRecDepth 100000
set_option maxHeartbeats 600000
namespace Gx
open PySem L2 Stp NdefX LamX Pu
open PyProof.Rows hiding St tupItems
open TL
theorem chrs_map (x : Str) : chrs x = x.cps.toList.map fun c => D.str ⟨#[c]⟩ := rfl
theorem e_integer_of {x : Str} (hx : x.length ≤ 100000) : c_36.1 [.str x] = .ret (numD x) := by
  have hc : compL (.nm 1) [some (.fz (.str x)), none] (fun _ => .ret true) (q2 inD (qVar 1) (qC (.str figs))) (chrs x) = .ret (x.cps.toList.map fun c => D.bl (isFig c)) := by
    rw [chrs_map, compL_g (f := fun c => D.bl (isFig c)) fun c hc => ⟨_, rfl, rfl, ?_⟩]
    show (T.ret (D.str ⟨#[c]⟩)).bind (fun d => (T.ret (D.str figs)).bind fun e => inD d e) = _
    rw [T.bind_ret, T.bind_ret, in_fig]
  have hl : (chrs x).length ≤ big := by
    rw [chrs_map, List.length_map, ← Pu.len_str]
    unfold big
    omega
  have hf : figs = Str.ofString "0123456789" := rfl
  have hb : x.length ≤ big := by unfold big; omega
  have el := Pu.lenF_str (x := x) (by omega)
  delta c_36
  dsimp only
  by_cases h1 : 1 ≤ x.length ∧ x.length ≤ 2
  · have i1 : (1 : Int) ≤ x.length := by omega
    have i2 : (x.length : Int) ≤ 2 := by omega
    have hx : x.length ≤ 640 := by omega
    by_cases h2 : ∀ c ∈ x.cps.toList, isFig c = true
    · obtain ⟨n, hn, e1, e2⟩ := dig_num h1.1 h1.2 h2
      have ha : x.cps.toList.all isFig = true := List.all_eq_true.mpr h2
      have es := strIF_num (n := n) (by omega)
      simp [startE, N_36, hb, grd_pos, hl, ← hf, hc, ha, e1, e2, el, i1, i2, es, hx]
      by_cases e : x = numS n <;> simp [e]
    · have ha : x.cps.toList.all isFig = false := by
        rw [← Bool.not_eq_true, List.all_eq_true]
        exact h2
      have e2 : numD x = .non := by
        unfold numD
        rw [num_not (.inr ?_)]
        rw [List.all_eq_false] at ha
        obtain ⟨c, m, e⟩ := ha
        exact ⟨c, m, by simpa using e⟩
      simp [startE, N_36, hb, grd_pos, hl, ← hf, hc, ha, e2, el, i1, i2]
  · have e2 : numD x = .non := by
      unfold numD
      rw [num_not (.inl h1)]
    have e3 : (decide ((1 : Int) ≤ x.length) && decide ((x.length : Int) ≤ 2)) = false := by
      rw [← Bool.not_eq_true, Bool.and_eq_true, decide_eq_true_eq, decide_eq_true_eq]
      omega
    simp [startE, N_36, el, e2, e3]
theorem e_item_of {x : Str} {k : Int} (hx : x.length ≤ 100000) : c_37.1 [.str x, .int k] = .ret (optI (sgO k x)) := by
  delta c_37
  dsimp only
  simp [startE, N_37, e_integer_of hx]
  unfold numD sgO
  cases numO x with
  | none => simp [optI]
  | some n => by_cases h : (n : Int) < k <;> simp [h, optI]
theorem e_event_of {x : Str} {k : Int} (hx : x.length ≤ 100000) : c_38.1 [.str x, .int k] = .ret (optI (evO k x)) := by
  have hit : itemsN (mdD [(-1, "e"), (-2, "d")]) = [.tup [.int (-1), .str "e"], .tup [.int (-2), .str "d"]] := rfl
  delta c_38
  dsimp only
  have ed : ¬ Str.ofString "d" = Str.ofString "e" := by decide
  simp [startE, N_38, e_item_of hx, hit, forL, putP]
  unfold evO
  by_cases h1 : x = "e"
  · simp [h1, optI]
  · by_cases h2 : x = "d"
    · simp [h1, h2, optI, ed]
    · simp [h1, h2]
theorem e_joined {xs : List Int} (hl : xs.length ≤ 100) (hx : ∀ i ∈ xs, -2 ≤ i ∧ i < 100) : c_32.1 [.tup (iD xs)] = .ret (.str (txI xs)) := by
  have hc : ∀ {me : Pu.Env → T D}, (∀ i : Int, i ∈ xs → me [some (.fz (.tup (iD xs))), some (.fz (.int i))] = .ret (.str (evS i))) → compL (.nm 1) [some (.fz (.tup (iD xs))), none] (fun _ => .ret true) me (iD xs) = .ret ((xs.map evS).map D.str) := by
    intro me h
    show compL _ _ _ _ (xs.map D.int) = _
    rw [compL_g (f := fun i => D.str (evS i)) fun i m => ⟨_, rfl, rfl, h i m⟩, List.map_map]
    rfl
  have s0 := sum_len hx
  have hb : ((xs.map evS).map (·.length)).sum + (xs.map evS).length * Str.length (Str.ofString ".") ≤ big := by
    have : Str.length (Str.ofString ".") = 1 := rfl
    rw [this, List.length_map]
    unfold big
    omega
  have h2 : xs.length ≤ big := by unfold big; omega
  delta c_32
  dsimp only
  by_cases h0 : xs = []
  · subst h0
    rfl
  · have hn : neD (.tup (iD xs)) (.tup []) = .ret (.bl true) := by
      rw [show (D.tup [] : D) = .tup (iD []) from rfl, neD_intsT]
      simp [h0]
    simp [startE, N_32, hn, h2, grd_pos]
    rw [hc (fun i hi => ?_)]
    · simp only [T.bind_ret, joinD_lst, strL_mapS]
      rw [grd_pos hb]
      simp [txI, h0]
    · obtain ⟨h3, h4⟩ := hx i hi
      have es : strIF [.int i] = .ret (.str (Str.ofString (toString i))) := strIF_ok (by omega)
      show ((T.ret (D.int i)).bind fun y => ((qN strIF (aCons (qVar 1) aNil)) [some (O.fz (D.tup (iD xs))), some (O.fz (D.int i))]).bind (getDN _ y)) = _
      rw [T.bind_ret, show (qN strIF (aCons (qVar 1) aNil)) [some (O.fz (D.tup (iD xs))), some (O.fz (D.int i))] = strIF [.int i] from rfl, es, T.bind_ret, getDN_int, valN_ev, evS_w]
end Gx
set_option Elab.async false
set_option linter.all false
set_option maxRecDepth 100000
set_option maxHeartbeats 600000
namespace Gx
open PySem L2 Stp NdefX LamX Pu
open PyProof.Rows hiding St tupItems
open TL
def kF (word : Str) (moves most : Int) (fn : D) (longest : Int) : List (Str × D) := [("word", .str word), ("moves", .int moves), ("most", .int most), ("items_of", fn), ("longest", .int longest)]
def kD (word : Str) (moves most : Int) (fn : D) (longest : Int) : D := .obj 3 (kF word moves most fn longest)
section
variable {word : Str} {moves most longest : Int} {fn : D}
theorem kF_moves : (kF word moves most fn longest).lookup (Str.ofString "moves") = some (.int moves) := rfl
theorem kF_most : (kF word moves most fn longest).lookup (Str.ofString "most") = some (.int most) := rfl
theorem kF_items : (kF word moves most fn longest).lookup (Str.ofString "items_of") = some fn := rfl
theorem kF_longest : (kF word moves most fn longest).lookup (Str.ofString "longest") = some (.int longest) := rfl
end
def FitT (fn : D) (item : Str → Option Int) : Prop := ∃ id cs, fn = .fn id cs ∧ ∀ x : Str, x.length ≤ 100000 → callV [(1, 1, lc_1.1), (2, 1, lc_2.1)] (.fn id cs) [.str x] = .ret (optI (item x))
theorem notIn_opt (os : List (Option Int)) : notInD .non (.tup (os.map optI)) = .ret (.bl (os.all (·.isSome))) := by
  have h : (os.map optI).all flatD = true := by
    rw [List.all_map, List.all_eq_true]
    intro o _
    cases o <;> rfl
  have e : inB .non (.tup (os.map optI)) = some ((os.map optI).any fun y => eqF y .non) := by
    show (if flatD .non = true ∧ (os.map optI).all flatD = true then _ else none) = _
    rw [if_pos ⟨rfl, h⟩]
  unfold notInD
  rw [e]
  show T.ret (D.bl (!((os.map optI).any fun y => eqF y .non))) = _
  congr 2
  rw [List.any_map, List.not_any_eq_all_not]
  congr 1
  funext o
  cases o <;> rfl
theorem opt_ints {os : List (Option Int)} (h : os.all (·.isSome) = true) : os.map optI = iD (os.filterMap id) := by
  induction os with
  | nil => rfl
  | cons o os ih =>
    rw [List.all_cons, Bool.and_eq_true] at h
    cases o with
    | none => cases h.1
    | some i =>
      rw [List.map_cons, ih h.2]
      rfl
theorem e_move_of {word : Str} {moves most longest : Int} {fn : D} {item : Str → Option Int} (hf : FitT fn item) (h0 : 0 ≤ longest) {x : Str} (hx : x.length ≤ 100000) : c_39001.1 [kD word moves most fn longest, .str x] = .ret (match moveO item most longest.toNat x with | some v => mvD v | none => .non) := by
  obtain ⟨id, cs, rfl, hf⟩ := hf
  have b1 : (Str.length (Str.ofString " ") == 0) = false := rfl
  have b2 : (Str.length (Str.ofString ".") == 0) = false := rfl
  have hxb : x.length ≤ big := by unfold big; omega
  have hp : ∀ p ∈ Txt.split x " ", p.length ≤ x.length := fun p hp => split_part (by decide) (by kernel_rfl) hp
  have k1 := kF_most (word := word) (moves := moves) (most := most) (fn := .fn id cs) (longest := longest)
  have k2 := kF_items (word := word) (moves := moves) (most := most) (fn := .fn id cs) (longest := longest)
  have k3 := kF_longest (word := word) (moves := moves) (most := most) (fn := .fn id cs) (longest := longest)
  unfold kD
  generalize kF word moves most (.fn id cs) longest = K at k1 k2 k3 ⊢
  delta c_39001
  dsimp only
  unfold moveO
  generalize hw : Txt.split x " " = ws at hp
  match ws, hp with
  | [a, b], hp =>
    have ha := hp a (by simp)
    have hb := hp b (by simp)
    have hl : lenF [.lst [.str a, .str b]] = .ret (.int 2) := rfl
    have i0 : ofO (atI [D.str a, D.str b] 0) = .ret (.str a) := rfl
    have i1 : ofO (atI [D.str a, D.str b] 1) = .ret (.str b) := rfl
    have hab : a.length ≤ big := by omega
    have hn0 : notInD .non (.tup []) = .ret (.bl true) := notIn_opt []
    have hsl : (Txt.split a ".").length ≤ big := by
      have := PyProof.Rows.split_le a "."
      unfold big at *
      omega
    have hc : ∀ env : Pu.Env, (∀ w ∈ Txt.split a ".", ∃ env', putP (.nm 5) (.str w) env = some env' ∧ qCallA [(1, 1, lc_1.1), (2, 1, lc_2.1)] 3 (Str.ofString "items_of") (qVar 0) (aCons (qVar 5) aNil) env' = .ret (optI (item w))) → compL (.nm 5) env (fun _ => .ret true) (qCallA [(1, 1, lc_1.1), (2, 1, lc_2.1)] 3 (Str.ofString "items_of") (qVar 0) (aCons (qVar 5) aNil)) ((Txt.split a ".").map D.str) = .ret (((Txt.split a ".").map item).map optI) := by
      intro env h
      rw [compL_g (f := fun w => optI (item w)) fun w m => by
        obtain ⟨env', e1, e2⟩ := h w m
        exact ⟨env', e1, rfl, e2⟩, List.map_map]
      rfl
    simp [startE, N_39001, b1, hxb, grd_pos, hw, e_integer_of (x := b) (by omega), hl, k1, k2, k3, i0, i1, hn0, h0, hab, hsl]
    have hb2 : ¬ (Str.ofString ".").length = 0 := by simpa using b2
    cases hn : numO b with
    | none =>
      have e : numD b = .non := by unfold numD; rw [hn]
      rw [e]
      simp
    | some l =>
      have e : numD b = .int l := by unfold numD; rw [hn]
      rw [e]
      by_cases hm : (l : Int) < most
      · have hm' : ¬ most ≤ (l : Int) := by omega
        simp [hm, hm']
        by_cases hd : a = Str.ofString "-"
        · rw [if_pos hd, if_pos hd]
          rfl
        · rw [if_neg hd, if_neg hd, grd_pos hb2, hc _ fun w m => ⟨_, rfl, ?_⟩]
          · rw [T.bind_ret, notIn_opt, T.bind_ret, truB_bl, T.bind_ret]
            have ea : (((Txt.split a ".").map item).all (·.isSome) = true) = ∀ y ∈ Txt.split a ".", (item y).isSome = true := by simp
            have ef : ((Txt.split a ".").map item).filterMap _root_.id = (Txt.split a ".").filterMap item := by rw [List.filterMap_map]; rfl
            by_cases hs : ((Txt.split a ".").map item).all (·.isSome) = true
            · rw [if_pos hs, opt_ints hs, ef]
              have en : ((iD ((Txt.split a ".").filterMap item)).length : Int) = ((Txt.split a ".").length : Int) := by
                rw [← ef, ← opt_ints hs]
                simp
              rw [en]
              rw [ea] at hs
              by_cases hg : ((Txt.split a ".").length : Int) ≤ longest
              · rw [if_pos hg, if_pos ⟨hs, hg⟩]
                rfl
              · rw [if_neg hg, if_neg fun h => hg h.2]
            · rw [if_neg hs]
              rw [ea] at hs
              rw [if_neg fun h => hs h.1]
          · have hw2 := split_part (x := a) (y := ".") (by decide) (by kernel_rfl) m
            have e2 := hf w (by omega)
            simp [k2]
            exact e2
      · have hm' : most ≤ (l : Int) := by omega
        simp [hm, hm']
  | [], _ => simp [startE, N_39001, b1, hxb, grd_pos, hw]
  | [a], _ => simp [startE, N_39001, b1, hxb, grd_pos, hw]
  | a :: b :: c :: ws, _ =>
    have e : ¬ ((ws.length : Int) + 1 + 1 + 1 = 2) := by omega
    simp [startE, N_39001, b1, hxb, grd_pos, hw, e]
end Gx
set_option Elab.async false
set_option linter.all false
set_option maxRecDepth 100000
set_option maxHeartbeats 600000
namespace Gx
open PySem L2 Stp NdefX LamX Pu
open PyProof.Rows hiding St tupItems
@[simp] theorem llAppS_def {i : Nat} {mi m : Pu.Env → T D} {env : Pu.Env} : llAppS i mi m env = ownLL i env fun xss => exS (fun env => (mi env).bind fun a => (ixA xss.length a).bind fun ja => (m env).bind fun d => .ret (d, ja)) (fun p env => grd ((xss.getD p.2 []).length ≤ big) (.ret (.nx (env.set i (some (.ll (xss.set p.2 (xss.getD p.2 [] ++ [p.1])))))))) env := (rfl)
theorem eqD_tab (t : List (List Mv)) : eqD (tabD t) (.lst []) = .ret (.bl (decide (t = []))) := by
  by_cases h : t = []
  · rw [h]
    kernel_rfl
  · rw [(eqD_diff (nb_tabD t).nb (by rfl) (Nat.le_trans (nb_tabD t).dp (by decide)) (by decide) fun z => h (by simpa [tabD] using z)).1]
    simp [h]
theorem ix_tab_last {t : List (List Mv)} (h : t ≠ []) : ixD (tabD t) (.int (-1)) = .ret (rowD (t.getD (t.length - 1) [])) := by
  have hl := List.length_pos_iff.mpr h
  show ofO (atI (t.map rowD) (-1)) = _
  rw [atI_last (by simpa using h), List.getLast?_map, List.getLast?_eq_getElem?, List.getElem?_eq_getElem (by omega), List.getD_eq_getElem?_getD, List.getElem?_eq_getElem (by omega)]
  rfl
theorem rowsL_app (t : List (List Mv)) (r : List Mv) : rowsL t ++ [r.map mvD] = rowsL (t ++ [r]) := by
  unfold rowsL
  rw [List.map_append]
  rfl
theorem rowsL_set2 (t : List (List Mv)) (i : Nat) (r : List Mv) : (rowsL t).set i (r.map mvD) = rowsL (t.set i r) := by
  unfold rowsL
  rw [List.map_set]
theorem beq_int {m n : Nat} : ((m : Int) == (n : Int)) = decide (m = n) := by
  by_cases h : m = n
  · simp [h]
  · have : ¬ (m : Int) = n := by omega
    simp [h, this]
theorem ixN_last {n : Nat} (h : 0 < n) : ixN n (-1) = some (n - 1) := by
  unfold ixN
  rw [if_neg (by decide), if_pos (by omega)]
  congr 1
  omega
theorem intsD_iD : ∀ xs : List Int, intsD (iD xs) = some xs
  | [] => rfl
  | x :: xs => by
    show (intsD (iD xs)).map (x :: ·) = _
    rw [intsD_iD xs]
    rfl
theorem comp_lat {env : Pu.Env} {it1 : Pu.Env → T (List D)} {pt pt1 : Pt} {vs1 : List Nat} {tt tt1 : Pu.Env → T Bool} {me : Pu.Env → T D} : ∀ {rows : List (List Mv)}, (∀ r ∈ rows, ∃ env', putP pt (rowD r) env = some env' ∧ tt env' = .ret true ∧ (r.map mvD).length ≤ big2 ∧ it1 env' = .ret (r.map mvD) ∧ compL pt1 (wipeE env' vs1) tt1 me (r.map mvD) = .ret (iD (r.map (·.2)))) → compL2 pt env tt it1 pt1 vs1 tt1 me (rows.map rowD) = .ret (iD (rows.flatten.map (·.2)))
  | [], _ => rfl
  | r :: rows, h => by
    obtain ⟨env', e1, e2, e4, e3, e5⟩ := h r (List.mem_cons_self ..)
    rw [List.map_cons]
    unfold compL2
    rw [e1]
    dsimp only
    rw [e2, T.noX_ret, T.bind_ret, if_pos rfl, e3, T.noX_ret, T.bind_ret, grd_pos e4, e5, T.bind_ret, comp_lat fun d m => h d (List.mem_cons_of_mem _ m), T.bind_ret]
    simp [iD]
def I_rr (item : Str → Option Int) (most : Int) (longest moves : Nat) (l0 k0 : D) (ls : List Str) (rows : List (List Mv)) (j : Nat) (env : Pu.Env) : Prop := ∃ (t : List (List Mv)) (x3 x4 x5 x6 : Option O), t.length ≤ j ∧ (∀ r ∈ t, r.length ≤ j) ∧ rdL item most longest moves (1 + j) t (ls.drop (1 + j)) = .ok rows ∧ env = [some (.fz l0), some (.fz k0), some (.ll (rowsL t)), x3, x4, x5, x6, none, none, none]
theorem e_read_rows {word : Str} {most longest : Int} {M : Nat} {fn : D} {item : Str → Option Int} (hf : FitT fn item) (h0 : 0 ≤ longest) {ls : List Str} (hb : ∀ x ∈ ls, x.length ≤ 100000) (hn : ls.length ≤ 4000) {rows : List (List Mv)} (hr : readR item most longest.toNat M ls = .ok rows) : c_41.1 [.lst (ls.map .str), kD word M most fn longest] = .ret (tabD rows) := by
  unfold readR at hr
  cases hq : rdL item most longest.toNat M 1 [] (ls.drop 1) with
  | error i => rw [hq] at hr; cases hr
  | ok rows' =>
  rw [hq] at hr
  dsimp only at hr
  by_cases hc : rows' = [] ∨ (rows'.getD (rows'.length - 1) []).length < M ∨ (rows'.length : Int) ≤ latF rows'
  · rw [if_pos hc] at hr; cases hr
  rw [if_neg hc] at hr
  cases hr
  refine pure_ret ?_
  delta c_41
  dsimp only
  refine wb_runF (wb_seq ?_)
  refine wb_eq (by simp [startE, N_41]; rfl) ?_
  (refine wb_ret ?_; try dsimp only)
  refine wb_seq (wb_for ?_)
  refine wb_eq (by simp [cutG_drop]; rfl) ?_
  refine wb_ret ?_
  refine wb_forI 0 (I_rr item most longest.toNat M (.lst (ls.map .str)) (kD word M most fn longest) ls rows) ⟨[], _, _, _, _, by simp, by simp, by simpa using hq, rfl⟩ (by simp) ?_ ?_
  · rintro j d env hd ⟨t, x3, x4, x5, x6, h1, h2, hq, rfl⟩
    obtain ⟨d, hd2, rfl⟩ := enumF_at _ _ _ _ hd
    replace hd := hd2
    rw [← List.map_tail, List.getElem?_map] at hd
    cases hj : ls.tail[j]? with
    | none => rw [hj] at hd; cases hd
    | some line =>
    rw [hj] at hd
    cases hd
    have hj2 : ls[1 + j]? = some line := by
      rw [← hj, List.getElem?_tail, Nat.add_comm]
    have hm : line ∈ ls := List.mem_of_getElem? hj2
    obtain ⟨hjl, _⟩ := List.getElem?_eq_some_iff.mp hj2
    have hdr : ls.drop (1 + j) = line :: ls.drop (1 + (j + 1)) := by
      have := List.getElem?_eq_getElem hjl
      rw [hj2] at this
      rw [List.drop_eq_getElem_cons hjl, Option.some.inj this]
      rfl
    rw [hdr, rdL] at hq
    cases hs : rdStep item most longest.toNat M t line with
    | none => rw [hs] at hq; cases hq
    | some t' =>
    rw [hs] at hq
    dsimp only at hq
    refine ⟨_, rfl, ?_⟩
    have hlt : t.length ≤ big := by unfold big; omega
    have e1 : eqD (.lst ((rowsL t).map .lst)) (.lst []) = .ret (.bl (decide (t = []))) := by rw [rowsL_toD, eqD_tab]
    have e2 : t ≠ [] → ofO (atI ((rowsL t).map D.lst) (-1)) = .ret (rowD (t.getD (t.length - 1) [])) := fun h => by
      rw [← ix_tab_last h, ← rowsL_toD]
      rfl
    have hL : (t.getD (t.length - 1) []).length ≤ j := by
      by_cases h : t = []
      · rw [h]; simp
      · have := List.length_pos_iff.mpr h
        refine h2 _ ?_
        rw [List.getD_eq_getElem?_getD, List.getElem?_eq_getElem (by omega)]
        exact List.getElem_mem ..
    unfold rdStep at hs
    refine wb_if (wb_eq (s := .ret (decide (t = [] ∨ (t.getD (t.length - 1) []).length = M))) ?_ (wb_ret ?_))
    · by_cases h : t = []
      · subst h
        simp [e1, kD, kF_moves]
      · simp [e1, e2, h, kD, kF_moves]
        exact beq_int
    by_cases hA : t = [] ∨ (t.getD (t.length - 1) []).length = M
    · rw [if_pos hA] at hs
      rw [if_pos (decide_eq_true hA)]
      by_cases hB : line = "state" ∧ ¬ (t.length : Int) = most
      · rw [if_pos hB] at hs
        cases hs
        refine wb_seq (wb_if (wb_eq (s := .ret false) ?_ (wb_ret ?_)))
        · simp [hB.1, kD, kF_most]
          exact hB.2
        (refine wb_ret ?_; try dsimp only)
        refine wb_eq (s := .ret (.nx [some (.fz (.lst (ls.map .str))), some (.fz (kD word M most fn longest)), some (.ll (rowsL t ++ [[]])), x3, some (.fz (.int (1 + (j : Nat)))), some (.fz (.str line)), x6, none, none, none])) ?_ (wb_ret ?_)
        · simp [hlt]
        · refine ⟨t ++ [[]], x3, some (.fz (.int (1 + (j : Nat)))), some (.fz (.str line)), x6, by simp; omega, ?_, hq, ?_⟩
          · intro r hr
            rw [List.mem_append] at hr
            rcases hr with hr | hr
            · have := h2 r hr
              omega
            · simp at hr
              simp [hr]
          · rw [← rowsL_app]
            rfl
      · rw [if_neg hB] at hs
        cases hs
    · rw [if_neg hA] at hs
      rw [if_neg (by simpa using hA)]
      cases hv : moveO item most longest.toNat line with
      | none => rw [hv] at hs; cases hs
      | some v =>
      rw [hv] at hs
      cases hs
      refine wb_seq (wb_asg (wb_eq (s := .ret (mvD v)) ?_ (wb_ret ?_)))
      · have em := e_move_of (word := word) (moves := M) (most := most) (longest := longest) hf h0 (hb line hm)
        rw [hv] at em
        have e5 : methF 3 (Str.ofString "move_of") 2 c_39001.1 (T.ret [D.str line]) (kD word M most fn longest) = c_39001.1 [kD word M most fn longest, .str line] := rfl
        rw [em] at e5
        simp
        exact e5
      refine wb_seq (wb_if (wb_eq (s := .ret false) ?_ (wb_ret ?_)))
      · simp [mvD]
      (refine wb_ret ?_; try dsimp only)
      refine wb_eq (s := .ret (.nx [some (.fz (.lst (ls.map .str))), some (.fz (kD word M most fn longest)), some (.ll ((rowsL t).set (t.length - 1) (((t.getD (t.length - 1) []).map mvD) ++ [mvD v]))), x3, some (.fz (.int (1 + (j : Nat)))), some (.fz (.str line)), some (.fz (mvD v)), none, none, none])) ?_ (wb_ret ?_)
      · have hne : t ≠ [] := fun z => hA (.inl z)
        have hb2 : ((t.getD (t.length - 1) []).map mvD).length ≤ big := by
          rw [List.length_map]
          unfold big
          omega
        have e6 := ixN_last (List.length_pos_iff.mpr hne)
        have e7 := rowsL_get t (t.length - 1)
        generalize (t.getD (t.length - 1) []).map mvD = L at e7 hb2 ⊢
        simp [e6, e7, hb2, grd_pos]
      · refine ⟨t.set (t.length - 1) (t.getD (t.length - 1) [] ++ [v]), x3, some (.fz (.int (1 + (j : Nat)))), some (.fz (.str line)), some (.fz (mvD v)), by simp; omega, ?_, hq, ?_⟩
        · intro r hr
          rcases List.mem_or_eq_of_mem_set hr with hr | rfl
          · have := h2 r hr
            omega
          · simp at hL ⊢
            omega
        · rw [← rowsL_set2, List.map_append]
          rfl
  · rintro env ⟨t, x3, x4, x5, x6, h1, h2, hq, rfl⟩
    rw [enumF_len, List.length_tail, List.length_map] at hq h1 h2
    rw [List.drop_eq_nil_of_le (by omega)] at hq
    cases hq
    dsimp only
    have hne : rows ≠ [] := fun z => hc (.inl z)
    have hM : ¬ ((rows.getD (rows.length - 1) []).length < M) := fun z => hc (.inr (.inl z))
    have hla : ¬ (rows.length : Int) ≤ latF rows := fun z => hc (.inr (.inr z))
    have hcm : ∀ a0 a1 a2 a3 a4 a5 a6 : Option O, compL2 (.nm 7) [a0, a1, a2, a3, a4, a5, a6, none, none, none] (fun _ => .ret true) (iSeq (qVar 7)) (.tp [8, 9]) [8, 9] (fun _ => .ret true) (qVar 9) (rows.map rowD) = .ret (iD (rows.flatten.map (·.2))) := fun a0 a1 a2 a3 a4 a5 a6 => comp_lat fun r hr => ⟨_, rfl, rfl, by
      have := h2 r hr
      rw [List.length_map]
      unfold big2
      omega, rfl, by
      rw [compL_g (f := fun v : Mv => D.int v.2) fun v _ => ⟨_, rfl, rfl, rfl⟩]
      rw [iD, List.map_map]
      rfl⟩
    have hmx : maxDF 0 [.lst (iD (rows.flatten.map (·.2)))] = .ret (.int (latF rows)) := by
      show (match intsD (iD (rows.flatten.map (·.2))) with
        | some [] => T.ret (D.int 0)
        | some (y :: ys) => .ret (.int (maxF y ys))
        | none => .fail) = _
      rw [intsD_iD]
      unfold latF
      cases rows.flatten.map (·.2) <;> rfl
    refine wb_seq ?_
    have hb2 : rows.length ≤ big2 := by unfold big2; omega
    have hg : ∀ a b : Int, geD (.int a) (.int b) = .ret (.bl (decide (b ≤ a))) := fun _ _ => rfl
    refine wb_eq (by simp [rowsL_toD]; rfl) ?_
    rw [grd_pos hb2, hcm, T.bindX_ret, hmx, T.bindX_ret, hg, T.bindX_ret]
    refine wb_ret ?_
    dsimp only
    have e8 := ix_tab_last hne
    have e9 := eqD_tab rows
    refine wb_seq (wb_if (wb_eq (s := .ret false) ?_ (wb_ret ?_)))
    · simp [e9, e8, hne, hla, kD, kF_moves]
      simpa using hM
    (refine wb_ret ?_; try dsimp only)
    refine wb_eq (by simp; rfl) ?_
    (refine wb_ret ?_; try dsimp only)
    exact wb_ret rfl
end Gx
set_option Elab.async false
set_option linter.all false
set_option maxRecDepth 100000
set_option maxHeartbeats 600000
namespace Gx
open PySem L2 Stp NdefX LamX Pu
open PyProof.Rows hiding St tupItems
theorem e_first {l0 : Str} {ls : List Str} {word : Str} {s d : Nat} (hs : s < 100) (hd : d < 100) (hn : numsB (.int s) (.int d) = true) (hb : l0.length ≤ 100000) (h : Txt.split l0 " " = [word, numS s, numS d]) : c_40.1 [.lst ((l0 :: ls).map .str), .str word] = .ret (.lst [.int s, .int d]) := by
  have b1 : (Str.length (Str.ofString " ") == 0) = false := rfl
  have hxb : l0.length ≤ big := by unfold big; omega
  have ls1 := numS_len hs
  have ls2 := numS_len hd
  have n1 : numD (numS s) = .int s := by unfold numD; rw [numO_num hs]
  have n2 : numD (numS d) = .int d := by unfold numD; rw [numO_num hd]
  have e0 : ofO (atI (D.str l0 :: ls.map D.str) 0) = .ret (.str l0) := by
    rw [Pu.atI_nat (by decide)]
    rfl
  have cg : cutG [D.str word, D.str (numS s), D.str (numS d)] (some 1) none = [D.str (numS s), D.str (numS d)] := by
    rw [cutG_drop _ (by decide)]
    rfl
  have hc : ∀ a0 a1 a2 a3 : Option O, compL (.nm 4) [a0, a1, a2, a3, none] (fun _ => .ret true) (qN (fun ds => grd (ds.length = 1) (c_36.1 ds)) (aCons (qVar 4) aNil)) [D.str (numS s), D.str (numS d)] = .ret [.int s, .int d] := fun a0 a1 a2 a3 => by
    have q1 := e_integer_of (x := numS s) (by omega)
    have q2 := e_integer_of (x := numS d) (by omega)
    rw [n1] at q1
    rw [n2] at q2
    rw [show [D.str (numS s), D.str (numS d)] = [s, d].map fun n => D.str (numS n) from rfl, compL_g (f := fun n : Nat => D.int n) fun n hn => ⟨_, rfl, rfl, ?_⟩]
    · rfl
    · simp at hn
      rcases hn with rfl | rfl
      · simp [q1]
      · simp [q2]
  have i0 : ofO (atI [D.str word, D.str (numS s), D.str (numS d)] 0) = .ret (.str word) := rfl
  have j0 : ofO (atI [D.int s, D.int d] 0) = .ret (.int s) := rfl
  have j1 : ofO (atI [D.int s, D.int d] 1) = .ret (.int d) := rfl
  have hl : lenF [.lst [D.int s, D.int d]] = .ret (.int 2) := rfl
  have b2 : 2 ≤ big := by decide
  delta c_40
  dsimp only
  simp [startE, N_40, b1, hxb, grd_pos, h, e0, cg, b2]
  rw [hc]
  simp [i0, hl, j0, j1, e_nums (s := .int s) (d := .int d) rfl rfl, hn]
theorem isi_str {x : Str} : isiF kTb [.str x, .ty "str"] = .ret (.bl true) := by kernel_rfl
theorem e_lines_of {x : Str} (hx : x.length ≤ big) : c_42.1 [.str x] = .ret (.lst ((Txt.split x "\n").map .str)) := by
  have b1 : (Str.length (Str.ofString "\n") == 0) = false := rfl
  delta c_42
  dsimp only
  simp [startE, N_42, isi_str, b1, hx, grd_pos]
theorem e_kind {c : Nat} (hc : c = 3) {word : Str} {moves most longest : Int} {fn : D} : c_39000.1 c [] [.str word, .int moves, .int most, fn, .int longest] = .ret (kF word moves most fn longest) := by
  subst hc
  delta c_39000
  dsimp only
  simp [startI, N_39000]
  rfl
theorem fitsTW {s : Int} : FitT (.fn 1 [.int s]) (sgO s) := ⟨_, _, rfl, fun x hx => by
  simp [callV, LamL.look, plainL, plainD]
  delta lc_1
  dsimp only
  simp [startE, e_item_of hx]⟩
theorem fitsTR {d : Int} : FitT (.fn 2 [.int d]) (evO d) := ⟨_, _, rfl, fun x hx => by
  simp [callV, LamL.look, plainL, plainD]
  delta lc_2
  dsimp only
  simp [startE, e_event_of hx]⟩
theorem capsD1 {a0 a1 a2 a4 : Option O} {d : D} : capsD [a0, a1, a2, some (.fz d), a4] [3] = some [d] := rfl
theorem capsD2 {a0 a1 a2 a3 : Option O} {d : D} : capsD [a0, a1, a2, a3, some (.fz d)] [4] = some [d] := rfl
theorem plain_strs (ls : List Str) : plainD (.lst (ls.map D.str)) = true := by
  show plainL (ls.map D.str) = true
  induction ls with
  | nil => rfl
  | cons x ls ih => simpa [plainL, plainD] using ih
theorem sub_k {e : D} {ls : List Str} {word : Str} {moves most longest : Int} : subKL e [.lst (ls.map .str), kD word moves most (.rf 0) longest] = some [.lst (ls.map .str), kD word moves most e longest] := by
  have h : subK e (.lst (ls.map .str)) = some (.lst (ls.map .str)) := by
    unfold subK
    rw [if_pos (plain_strs ls)]
  unfold subKL
  rw [h]
  rfl
theorem has_k {ls : List Str} {word : Str} {moves most longest : Int} : hasK [.lst (ls.map .str), kD word moves most (.rf 0) longest] = true := rfl
theorem plain_objD (c : Nat) (m : Mch) : plainD (objD c m) = true := by
  have := okD_plain (okD_tabD m.rows)
  unfold objD
  simp [plainD, plainF, this]
theorem e_parse_writer {m : Mch} (h : WOk m) {x l0 : Str} {ls : List Str} (hx : x.length ≤ big) (hl : Txt.split x "\n" = l0 :: ls) (hn : (l0 :: ls).length ≤ 4000) (hb : ∀ l ∈ l0 :: ls, l.length ≤ 100000) (h1 : Txt.split l0 " " = [Str.ofString "writer", numS m.many.toNat, numS m.kinds.toNat])
    (hr : readR (sgO m.many) 24 12 (m.kinds + 1).toNat (l0 :: ls) = .ok m.rows) : c_43.1 [.str x] = .ret (objD 1 m) := by
  have m1 := h.num.m1
  have m2 := h.num.m2
  have k1 := h.num.k1
  have k2 := h.num.k2
  have em : ((m.many.toNat : Nat) : Int) = m.many := by omega
  have ek : ((m.kinds.toNat : Nat) : Int) = m.kinds := by omega
  have ef := e_first (word := "writer") (ls := ls) (s := m.many.toNat) (d := m.kinds.toNat) (by omega) (by omega) (by rw [em, ek]; exact numsB_ok h.num) (hb l0 (List.mem_cons_self ..)) h1
  rw [em, ek] at ef
  have er := e_read_rows (word := "writer") (M := (m.kinds + 1).toNat) (most := 24) (longest := 12) (fitsTW (s := m.many)) (by decide) hb hn hr
  rw [show (((m.kinds + 1).toNat : Nat) : Int) = m.kinds + 1 by omega] at er
  have el := e_lines_of hx
  rw [hl] at el
  have ek := e_kind (c := 3) rfl (word := "writer") (moves := m.kinds + 1) (most := 24) (longest := 12) (fn := .rf 0)
  have ew := e_writer h
  delta c_43
  dsimp only
  generalize (l0 :: ls) = lines at *
  simp [startE, N_43, el, ef]
  have sk := sub_k (e := .fn 1 [.int m.many]) (ls := lines) (word := "writer") (moves := m.kinds + 1) (most := 24) (longest := 12)
  have hk := has_k (ls := lines) (word := "writer") (moves := m.kinds + 1) (most := 24) (longest := 12)
  have pd : plainD (objD 1 m) = true := plain_objD _ _
  have pt : plainR (tabD m.rows) = .ret (tabD m.rows) := if_pos (okD_plain (okD_tabD _))
  unfold kD at sk hk
  rw [ek, T.bind_ret, capsD1]
  dsimp only
  rw [sk]
  dsimp only
  rw [grd_pos hk]
  simp [callL]
  unfold kD at er
  rw [er, T.bindX_ret, pt, T.bindX_ret, ew, T.bindX_ret]
  unfold objD at pd ⊢
  rw [onlyRt_rt, if_pos pd]
  rfl
theorem e_parse_reader {m : Mch} (h : ROk m) {x l0 : Str} {ls : List Str} (hx : x.length ≤ big) (hl : Txt.split x "\n" = l0 :: ls) (hn : (l0 :: ls).length ≤ 4000) (hb : ∀ l ∈ l0 :: ls, l.length ≤ 100000) (h1 : Txt.split l0 " " = [Str.ofString "reader", numS m.many.toNat, numS m.kinds.toNat])
    (hr : readR (evO m.kinds) 40 8 m.many.toNat (l0 :: ls) = .ok m.rows) : c_44.1 [.str x] = .ret (objD 2 m) := by
  have m1 := h.num.m1
  have m2 := h.num.m2
  have k1 := h.num.k1
  have k2 := h.num.k2
  have em : ((m.many.toNat : Nat) : Int) = m.many := by omega
  have ek : ((m.kinds.toNat : Nat) : Int) = m.kinds := by omega
  have ef := e_first (word := "reader") (ls := ls) (s := m.many.toNat) (d := m.kinds.toNat) (by omega) (by omega) (by rw [em, ek]; exact numsB_ok h.num) (hb l0 (List.mem_cons_self ..)) h1
  rw [em, ek] at ef
  have er := e_read_rows (word := "reader") (M := m.many.toNat) (most := 40) (longest := 8) (fitsTR (d := m.kinds)) (by decide) hb hn hr
  rw [em] at er
  have el := e_lines_of hx
  rw [hl] at el
  have ek := e_kind (c := 3) rfl (word := "reader") (moves := m.many) (most := 40) (longest := 8) (fn := .rf 0)
  have ew := e_reader h
  delta c_44
  dsimp only
  generalize (l0 :: ls) = lines at *
  simp [startE, N_44, el, ef]
  have sk := sub_k (e := .fn 2 [.int m.kinds]) (ls := lines) (word := "reader") (moves := m.many) (most := 40) (longest := 8)
  have hk := has_k (ls := lines) (word := "reader") (moves := m.many) (most := 40) (longest := 8)
  have pd : plainD (objD 2 m) = true := plain_objD _ _
  have pt : plainR (tabD m.rows) = .ret (tabD m.rows) := if_pos (okD_plain (okD_tabD _))
  unfold kD at sk hk
  rw [ek, T.bind_ret, capsD2]
  dsimp only
  rw [sk]
  dsimp only
  rw [grd_pos hk]
  simp [callL]
  unfold kD at er
  rw [er, T.bindX_ret, pt, T.bindX_ret, ew, T.bindX_ret]
  unfold objD at pd ⊢
  rw [onlyRt_rt, if_pos pd]
  rfl
end Gx
set_option Elab.async false
set_option linter.all false
set_option maxRecDepth 100000
set_option maxHeartbeats 600000
namespace Gx
open PySem L2 Stp NdefX LamX Pu
open PyProof.Rows hiding St tupItems
open TL
@[simp] theorem addD_str {a b : Str} : addD (.str a) (.str b) = grd (a.length + b.length ≤ big) (.ret (.str (a ++ b))) := (rfl)
theorem empty_app (a : Str) : Str.empty ++ a = a := by
  apply ext_tl
  rw [tl_append]
  rfl
theorem log2_small {n : Nat} (h : n < 64) : n.log2 < 1920 := by
  by_cases h0 : n = 0
  · subst h0; decide
  · have := (Nat.log2_lt h0 (k := 6)).mpr h
    omega
theorem e_prop1 {c : Nat} (hc : c ∈ [0, 1, 2]) {m : Mch} : c_25001.1 [objD c m] = .ret (.int m.many) := by
  simp at hc
  delta c_25001
  dsimp only
  rcases hc with rfl | rfl | rfl <;> simp [startE, N_25001]
theorem e_prop2 {c : Nat} (hc : c ∈ [0, 1, 2]) {m : Mch} : c_25002.1 [objD c m] = .ret (.int m.kinds) := by
  simp at hc
  delta c_25002
  dsimp only
  rcases hc with rfl | rfl | rfl <;> simp [startE, N_25002]
theorem e_rowsM {c : Nat} {m : Mch} (hc : c ∈ [0, 1, 2]) (hl : m.rows.length ≤ 1000) : c_25003.1 [objD c m] = .ret (tabD m.rows) := by
  simp at hc
  have hf : fldD "table" [0, 1, 2, 3] (objD c m) = .ret (tabD m.rows) := by rcases hc with rfl | rfl | rfl <;> simp
  delta c_25003
  dsimp only
  simp [startE, N_25003, hf]
  rw [grd_pos (by unfold big; omega), compL_map (f := id) fun y hy => ⟨_, rfl, rfl, by
    obtain ⟨r, _, rfl⟩ := List.mem_map.mp hy
    simp
    rfl⟩]
  simp
  rfl
structure TxOk (m : Mch) (k : Int) (ln moves : Nat) : Prop where
  num : NumOk m
  le : m.rows.length ≤ 40
  ne : m.rows ≠ []
  k1 : k ≤ 6
  l1 : ln ≤ 12
  m1 : moves ≤ 7
  row : ∀ r ∈ m.rows, r.length = moves ∧ ∀ v ∈ r, MvOk k m.rows.length ln v
theorem txW {m : Mch} (h : WOk m) : TxOk m m.many 12 (m.kinds + 1).toNat := by
  have k2 := h.num.k2
  have t1 := h.tab.le
  have t2 := h.tab.ne
  refine ⟨h.num, by omega, by intro z; rw [z] at t2; simp at t2, h.num.m2, by decide, by omega, fun r hr => ?_⟩
  have e := h.tab.row r hr
  refine ⟨by omega, fun v hv => ?_⟩
  obtain ⟨a, b, c, d⟩ := h.tab.mv r hr v hv
  exact ⟨fun i hi => by have := b i hi; omega, a, c, d⟩
theorem txR {m : Mch} (h : ROk m) : TxOk m m.kinds 8 m.many.toNat := by
  have k2 := h.num.m2
  have t1 := h.tab.le
  have t2 := h.tab.ne
  refine ⟨h.num, by omega, by intro z; rw [z] at t2; simp at t2, h.num.k2, by decide, by omega, fun r hr => ?_⟩
  have e := h.tab.row r hr
  refine ⟨by omega, fun v hv => ?_⟩
  obtain ⟨a, b, c, d⟩ := h.tab.mv r hr v hv
  exact ⟨fun i hi => by have := b i hi; omega, a, c, d⟩
theorem rowS_mem {m : Mch} {k : Int} {ln moves : Nat} (h : TxOk m k ln moves) {r : List Mv} (hr : r ∈ m.rows) {l : Str} (hl : l ∈ rowS r) : l.length ≤ 40 ∧ Low l ∧ Free 10 l := by
  have a := h.le
  have b := h.k1
  rcases List.mem_cons.mp hl with rfl | hl
  · exact ⟨by decide, low_dec (by kernel_rfl), free_dec (by kernel_rfl)⟩
  · obtain ⟨v, hv, rfl⟩ := List.mem_map.mp hl
    have hm := (h.row r hr).2 v hv
    exact ⟨lnS_len hm (by omega) (by omega) h.l1, lnS_low hm, lnS_free hm⟩
theorem flat_len : ∀ {rs : List (List Mv)} {q : Nat}, (∀ r ∈ rs, r.length ≤ q) → ((rs.map rowS).flatten).length ≤ (q + 1) * rs.length
  | [], _, _ => by simp
  | r :: rs, q, h => by
    have ih := flat_len (rs := rs) fun x m => h x (List.mem_cons_of_mem _ m)
    have := h r (List.mem_cons_self ..)
    rw [List.map_cons, List.flatten_cons, List.length_append, List.length_cons, Nat.mul_succ]
    unfold rowS at *
    rw [List.length_cons, List.length_map]
    omega
theorem head_facts {word : Str} {m : Mch} (h : NumOk m) (hw : word.length ≤ 10) (h1 : Low word) (h2 : Free 10 word) : (headS word m).length ≤ 20 ∧ Low (headS word m) ∧ Free 10 (headS word m) := by
  have a := h.m1
  have b := h.m2
  have c := h.k1
  have d := h.k2
  unfold headS
  rw [strI_num (by omega), strI_num (by omega)]
  have l1 := (numS_len (n := m.many.toNat) (by omega)).2
  have l2 := (numS_len (n := m.kinds.toNat) (by omega)).2
  have l3 : Str.length (Str.ofString " ") = 1 := rfl
  refine ⟨?_, ?_, ?_⟩
  · rw [len_app, len_app, len_app, len_app]
    omega
  · exact (((h1.app (low_dec (by kernel_rfl))).app (low_num _)).app (low_dec (by kernel_rfl))).app (low_num _)
  · exact free_app (free_app (free_app (free_app h2 (free_dec (by kernel_rfl))) (free_num (by decide))) (free_dec (by kernel_rfl))) (free_num (by decide))
theorem lines_facts {word : Str} {m : Mch} {k : Int} {ln moves : Nat} (h : TxOk m k ln moves) (hw : word.length ≤ 10) (h1 : Low word) (h2 : Free 10 word) : (linesM word m).length ≤ 400 ∧ (∀ l ∈ linesM word m, l.length ≤ 40 ∧ Low l ∧ Free 10 l) := by
  constructor
  · have := flat_len (rs := m.rows) (q := 7) fun r hr => by have := (h.row r hr).1; have := h.m1; omega
    have := h.le
    unfold linesM
    rw [List.length_cons]
    omega
  · intro l hl
    rcases List.mem_cons.mp hl with rfl | hl
    · obtain ⟨a, b, c⟩ := head_facts h.num hw h1 h2
      exact ⟨by omega, b, c⟩
    · obtain ⟨ls, hls, hl⟩ := List.mem_flatten.mp hl
      obtain ⟨r, hr, rfl⟩ := List.mem_map.mp hls
      exact rowS_mem h hr hl
/-- the text of a machine -/
def textM (word : Str) (m : Mch) : Str := Txt.join "\n" (linesM word m)
theorem text_facts {word : Str} {m : Mch} {k : Int} {ln moves : Nat} (h : TxOk m k ln moves) (hw : word.length ≤ 10) (h1 : Low word) (h2 : Free 10 word) : ((linesM word m).map (·.length)).sum + (linesM word m).length * Str.length (Str.ofString "\n") ≤ 17000 ∧ (textM word m).length ≤ 17000 ∧ Low (textM word m) ∧ Txt.split (textM word m) "\n" = linesM word m := by
  obtain ⟨a, b⟩ := lines_facts h hw h1 h2
  have s := sum_bound fun l hl => (b l hl).1
  have e : Str.length (Str.ofString "\n") = 1 := rfl
  have j := join_len "\n" (linesM word m)
  unfold textM
  rw [e] at j ⊢
  refine ⟨by omega, by omega, low_join (low_dec (by kernel_rfl)) fun l hl => (b l hl).2.1, split_lines (by unfold linesM; simp) fun l hl => (b l hl).2.2⟩
def I_fm (a0 a1 : D) (hd : Str) (rows : List (List Mv)) (j : Nat) (env : Pu.Env) : Prop := ∃ x3 : Option O, env = [some (.fz a0), some (.fz a1), some (.ls ((hd :: ((rows.take j).map rowS).flatten).map .str)), x3, none, none]
theorem take_rows {rows : List (List Mv)} {j : Nat} {r : List Mv} (h : rows[j]? = some r) (hd : Str) : (hd :: ((rows.take (j + 1)).map rowS).flatten).map D.str = ((hd :: ((rows.take j).map rowS).flatten).map D.str ++ [D.str "state"]) ++ (r.map lnS).map D.str := by
  rw [List.take_add_one, h]
  show (hd :: ((rows.take j ++ [r]).map rowS).flatten).map D.str = _
  rw [List.map_append, List.flatten_append, List.map_cons, List.map_append, List.map_cons]
  simp [rowS]
theorem take_len {m : Mch} {k : Int} {ln moves : Nat} (h : TxOk m k ln moves) (j : Nat) (hd : Str) : ((hd :: ((m.rows.take j).map rowS).flatten).map D.str).length ≤ 400 := by
  have := flat_len (rs := m.rows.take j) (q := 7) fun r hr => by have := (h.row r (List.mem_of_mem_take hr)).1; have := h.m1; omega
  have l := h.le
  have l2 : (m.rows.take j).length ≤ m.rows.length := by rw [List.length_take]; omega
  rw [List.length_map, List.length_cons]
  omega
theorem e_format {c : Nat} (hc : c ∈ [0, 1, 2]) {word : Str} {m : Mch} {k : Int} {ln moves : Nat} (h : TxOk m k ln moves) (hw : word.length ≤ 10) (h1 : Low word) (h2 : Free 10 word) : c_33.1 [.str word, objD c m] = .ret (.str (textM word m)) := by
  have l0 := h.le
  obtain ⟨t1, _⟩ := text_facts h hw h1 h2
  have n1 := h.num.m1
  have n2 := h.num.m2
  have n3 := h.num.k1
  have n4 := h.num.k2
  have p1 := e_prop1 (m := m) hc
  have p2 := e_prop2 (m := m) hc
  have p3 := e_rowsM (m := m) hc (by omega)
  have hc2 := hc
  simp at hc2
  have qa : (Str.ofString m.many.repr).length ≤ 2 := by
    rw [show Str.ofString m.many.repr = numS m.many.toNat from strI_num (by omega)]
    exact (numS_len (by omega)).2
  have qb : (Str.ofString m.kinds.repr).length ≤ 2 := by
    rw [show Str.ofString m.kinds.repr = numS m.kinds.toNat from strI_num (by omega)]
    exact (numS_len (by omega)).2
  have qc : Str.length (Str.ofString " ") = 1 := rfl
  have hh := (head_facts h.num hw h1 h2).1
  have hm1 : m.many.natAbs.log2 < 1920 := log2_small (by omega)
  have hm2 : m.kinds.natAbs.log2 < 1920 := log2_small (by omega)
  refine pure_ret ?_
  delta c_33
  dsimp only
  refine wb_runF (wb_seq ?_)
  refine wb_eq (by simp [startE, N_33, p1, p2, hc2]; rfl) ?_
  repeat refine wb_grd (by first | exact hm1 | exact hm2 | ((try simp only [len_app, empty_app]); unfold big; omega)) ?_
  refine wb_ret ?_
  dsimp only
  refine wb_seq (wb_for ?_)
  refine wb_eq (by simp [p3, hc2]; rfl) ?_
  refine wb_ret ?_
  refine wb_forI 0 (I_fm (.str word) (objD c m) (headS word m) m.rows) ⟨none, by simp [empty_app, headS]⟩ (by simp) ?_ ?_
  · rintro j d env hd ⟨x3, rfl⟩
    rw [List.getElem?_map] at hd
    cases hj : m.rows[j]? with
    | none => rw [hj] at hd; cases hd
    | some r =>
    rw [hj] at hd
    cases hd
    have hr := List.mem_of_getElem? hj
    have tl0 := take_len h j (headS word m)
    have rl := (h.row r hr).1
    have ml := h.m1
    refine ⟨_, rfl, ?_⟩
    have hcm : ∀ a0 a1 a2 a3 : Option O, compL (.tp [4, 5]) [a0, a1, a2, a3, none, none] (fun _ => .ret true) (fJs [q1 fmtD (qN (fun ds => grd (ds.length = 1) (c_32.1 ds)) (aCons (qVar 4) aNil)), qC (.str " "), q1 fmtD (qVar 5)] Str.empty) (r.map mvD) = .ret ((r.map lnS).map .str) := fun a0 a1 a2 a3 => by
      rw [compL_g (f := fun v : Mv => D.str (lnS v)) fun v hv => ⟨_, rfl, rfl, ?_⟩]
      · rw [List.map_map]
        rfl
      have hv2 := (h.row r hr).2 v hv
      have ej := e_joined (xs := v.1) (by have := hv2.2.1; have := h.l1; omega) fun i hi => by have := hv2.1 i hi; have := h.k1; omega
      have es := strI_num hv2.2.2.1
      have eq := (numS_len (n := v.2.toNat) (by have := hv2.2.2.2; omega)).2
      have el := txI_len (xs := v.1) fun i hi => by have := hv2.1 i hi; have := h.k1; omega
      have el2 := hv2.2.1
      have el3 := h.l1
      have hlg : v.2.natAbs.log2 < 1920 := log2_small (by have := hv2.2.2.1; have := hv2.2.2.2; omega)
      have er : (Str.ofString v.2.repr).length ≤ 2 := by
        rw [show Str.ofString v.2.repr = Str.ofString (toString v.2) from rfl, es]
        exact eq
      simp [ej]
      rw [grd_pos (by unfold big; omega), grd_pos (by rw [empty_app]; unfold big; omega), grd_pos (by rw [empty_app, len_app]; unfold big; omega), grd_pos hlg, grd_pos (by rw [empty_app, len_app, len_app]; unfold big; omega), empty_app]
      rfl
    have etk := take_rows hj (headS word m)
    generalize (headS word m :: ((m.rows.take j).map rowS).flatten).map D.str = L at tl0 etk
    refine wb_seq ?_
    refine wb_eq (by simp; rfl) ?_
    refine wb_grd (by unfold big; omega) ?_
    refine wb_ret ?_
    dsimp only
    refine wb_eq (by simp [hcm]; rfl) ?_
    repeat refine wb_grd (by unfold big; omega) ?_
    refine wb_ret ?_
    refine ⟨some (.fz (rowD r)), ?_⟩
    rw [etk]
    simp
  · rintro env ⟨x3, rfl⟩
    rw [List.length_map, List.take_length]
    dsimp only
    rw [show (headS word m :: (m.rows.map rowS).flatten).map D.str = (linesM word m).map D.str from rfl]
    unfold textM
    generalize linesM word m = LS at t1 ⊢
    refine wb_eq (by simp; rfl) ?_
    repeat refine wb_grd (by unfold big; omega) ?_
    refine wb_ret ?_
    exact wb_ret rfl
end Gx
set_option Elab.async false
set_option linter.all false
set_option maxRecDepth 100000
set_option maxHeartbeats 600000
namespace Gx
open PySem L2 Stp NdefX LamX Pu
open PyProof.Rows hiding St tupItems
open TL
theorem e_litems {xs : List Int} (hl : xs.length ≤ 100) (hx : ∀ i ∈ xs, -2 ≤ i ∧ i < 100) : c_58.1 [.tup (iD xs)] = .ret (.str (txI xs)) := by
  have hc : ∀ {me : Pu.Env → T D} {a1 : Option O}, (∀ i : Int, i ∈ xs → me [some (.fz (.tup (iD xs))), a1, some (.fz (.int i))] = .ret (.str (evS i))) → compL (.nm 2) [some (.fz (.tup (iD xs))), a1, none] (fun _ => .ret true) me (iD xs) = .ret ((xs.map evS).map D.str) := by
    intro me a1 h
    show compL _ _ _ _ (xs.map D.int) = _
    rw [compL_g (f := fun i => D.str (evS i)) fun i m => ⟨_, rfl, rfl, h i m⟩, List.map_map]
    rfl
  have s0 := sum_len hx
  have hb : ((xs.map evS).map (·.length)).sum + (xs.map evS).length * Str.length (Str.ofString ".") ≤ big := by
    have : Str.length (Str.ofString ".") = 1 := rfl
    rw [this, List.length_map]
    unfold big
    omega
  have h2 : xs.length ≤ big := by unfold big; omega
  delta c_58
  dsimp only
  by_cases h0 : xs = []
  · subst h0
    rfl
  · have hn : neD (.tup (iD xs)) (.tup []) = .ret (.bl true) := by
      rw [show (D.tup [] : D) = .tup (iD []) from rfl, neD_intsT]
      simp [h0]
    simp [startE, N_58, hn, h2, grd_pos, keyD]
    rw [hc (fun i hi => ?_)]
    · simp only [T.bind_ret, joinD_lst, strL_mapS]
      rw [grd_pos hb]
      simp [txI, h0]
    · obtain ⟨h3, h4⟩ := hx i hi
      have es : strIF [.int i] = .ret (.str (Str.ofString (toString i))) := strIF_ok (by omega)
      have h1 : ∀ d e : D, valD [((.inl (-1) : Key), d), (.inl (-2), e)] (.inl i) = if i = -1 then some d else if i = -2 then some e else none := fun d e => by
        unfold valD
        rw [List.find?_cons, List.find?_cons]
        by_cases h1 : i = -1
        · subst h1; rfl
        · by_cases h2 : i = -2
          · subst h2; rfl
          · have z1 : ¬ (Sum.inl (-1) : Key) = .inl i := fun z => h1 (by injection z with z; exact z.symm)
            have z2 : ¬ (Sum.inl (-2) : Key) = .inl i := fun z => h2 (by injection z with z; exact z.symm)
            simp [z1, z2, h1, h2]
      simp [es, h1]
      rw [← evS_w]
      by_cases q1 : i = -1
      · simp [q1]
      · by_cases q2 : i = -2 <;> simp [q1, q2]
def I_ll (a0 a1 : D) (hd : Str) (rows : List (List Mv)) (j : Nat) (env : Pu.Env) : Prop := ∃ x3 : Option O, env = [some (.fz a0), some (.fz a1), some (.ls ((hd :: ((rows.take j).map rowS).flatten).map .str)), x3, none, none]
def kindW (b : Bool) : Str := if b = true then "writer" else "reader"
theorem kindW_len (b : Bool) : (kindW b).length ≤ 10 := by cases b <;> decide
theorem kindW_low (b : Bool) : Low (kindW b) := by cases b <;> exact low_dec (by kernel_rfl)
theorem kindW_free (b : Bool) : Free 10 (kindW b) := by cases b <;> exact free_dec (by kernel_rfl)
theorem e_llines {b : Bool} {m : Mch} {k : Int} {ln moves : Nat} (h : TxOk m k ln moves) : c_59.1 [lawD m, .bl b] = .ret (.lst ((linesM (kindW b) m).map .str)) := by
  have l0 := h.le
  have n1 := h.num.m1
  have n2 := h.num.m2
  have n3 := h.num.k1
  have n4 := h.num.k2
  have es1 : strIF [.int m.many] = .ret (.str (Str.ofString (toString m.many))) := strIF_ok (by omega)
  have es2 : strIF [.int m.kinds] = .ret (.str (Str.ofString (toString m.kinds))) := strIF_ok (by omega)
  have qa : (Str.ofString m.many.repr).length ≤ 2 := by
    rw [show Str.ofString m.many.repr = numS m.many.toNat from strI_num (by omega)]
    exact (numS_len (by omega)).2
  have qb : (Str.ofString m.kinds.repr).length ≤ 2 := by
    rw [show Str.ofString m.kinds.repr = numS m.kinds.toNat from strI_num (by omega)]
    exact (numS_len (by omega)).2
  have qc : Str.length (Str.ofString " ") = 1 := rfl
  have qd : (Str.ofString (if b = true then "writer " else "reader ")).length = 7 := by cases b <;> rfl
  have i0 : ofO (atI [D.int m.many, D.int m.kinds, tabD m.rows] 0) = .ret (.int m.many) := rfl
  have i1 : ofO (atI [D.int m.many, D.int m.kinds, tabD m.rows] 1) = .ret (.int m.kinds) := rfl
  have i2 : ofO (atI [D.int m.many, D.int m.kinds, tabD m.rows] 2) = .ret (tabD m.rows) := rfl
  have hh : kindW b ++ " " = Str.ofString (if b = true then "writer " else "reader ") := by cases b <;> kernel_rfl
  have hb3 : ∀ x : Str, x.length = 7 → (x.length + (Str.ofString m.many.repr).length ≤ big ∧ (x ++ Str.ofString m.many.repr).length + (Str.ofString " ").length ≤ big ∧ (x ++ Str.ofString m.many.repr ++ Str.ofString " ").length + (Str.ofString m.kinds.repr).length ≤ big) := fun x hx => by
    rw [len_app, len_app, len_app, hx, qc]
    unfold big
    omega
  obtain ⟨g1, g2, g3⟩ := hb3 _ qd
  have hhd : headS (kindW b) m = (Str.ofString (if b = true then "writer " else "reader ")) ++ Str.ofString m.many.repr ++ Str.ofString " " ++ Str.ofString m.kinds.repr := by
    unfold headS
    rw [hh]
    rfl
  have hq : qIf (tb1 (qVar 1) truD) (qC (.str "writer ")) (qC (.str "reader ")) [some (.fz (lawD m)), some (.fz (.bl b)), none, none, none, none] = .ret (.str (Str.ofString (if b = true then "writer " else "reader "))) := by cases b <;> rfl
  refine pure_ret ?_
  delta c_59
  dsimp only
  refine wb_runF (wb_seq (wb_asgO (wb_eq (s := .ret (.ls [.str (headS (kindW b) m)])) ?_ (wb_ret ?_))))
  · rw [hhd]
    show (oL (aCons (q2 addD (q2 addD (q2 addD (qIf (tb1 (qVar 1) truD) (qC (.str "writer ")) (qC (.str "reader "))) (qN strIF (aCons (q2 ixD (qVar 0) (qC (D.int 0))) aNil))) (qC (.str " "))) (qN strIF (aCons (q2 ixD (qVar 0) (qC (D.int 1))) aNil))) aNil)) [some (.fz (lawD m)), some (.fz (.bl b)), none, none, none, none] = _
    generalize qIf (tb1 (qVar 1) truD) (qC (.str "writer ")) (qC (.str "reader ")) = Q at hq
    generalize Str.ofString (if b = true then "writer " else "reader ") = X at g1 g2 g3 hq ⊢
    unfold lawD at hq ⊢
    simp [hq, i0, i1, es1, es2, g1, g2, g3, grd_pos]
  refine wb_seq (wb_for ?_)
  have e2 : iSeq (q2 ixD (qVar 0) (qC (D.int 2))) [some (.fz (lawD m)), some (.fz (.bl b)), some (.ls [.str (headS (kindW b) m)]), none, none, none] = .ret (m.rows.map rowD) := rfl
  refine wb_eq e2 (wb_ret ?_)
  refine wb_forI 0 (I_ll (lawD m) (.bl b) (headS (kindW b) m) m.rows) ⟨none, rfl⟩ (by simp) ?_ ?_
  · rintro j d env hd ⟨x3, rfl⟩
    rw [List.getElem?_map] at hd
    cases hj : m.rows[j]? with
    | none => rw [hj] at hd; cases hd
    | some r =>
    rw [hj] at hd
    cases hd
    have hr := List.mem_of_getElem? hj
    have tl0 := take_len h j (headS (kindW b) m)
    have rl := (h.row r hr).1
    have ml := h.m1
    refine ⟨_, rfl, ?_⟩
    have hcm : ∀ a0 a1 a2 a3 : Option O, compL (.tp [4, 5]) [a0, a1, a2, a3, none, none] (fun _ => .ret true) (q2 addD (q2 addD (qN (fun ds => grd (ds.length = 1) (c_58.1 ds)) (aCons (qVar 4) aNil)) (qC (.str " "))) (qN strIF (aCons (qVar 5) aNil))) (r.map mvD) = .ret ((r.map lnS).map .str) := fun a0 a1 a2 a3 => by
      rw [compL_g (f := fun v : Mv => D.str (lnS v)) fun v hv => ⟨_, rfl, rfl, ?_⟩]
      · rw [List.map_map]
        rfl
      have hv2 := (h.row r hr).2 v hv
      have ej := e_litems (xs := v.1) (by have := hv2.2.1; have := h.l1; omega) fun i hi => by have := hv2.1 i hi; have := h.k1; omega
      have es := strI_num hv2.2.2.1
      have eq := (numS_len (n := v.2.toNat) (by have := hv2.2.2.2; omega)).2
      have el := txI_len (xs := v.1) fun i hi => by have := hv2.1 i hi; have := h.k1; omega
      have el2 := hv2.2.1
      have el3 := h.l1
      have er : (Str.ofString v.2.repr).length ≤ 2 := by
        rw [show Str.ofString v.2.repr = Str.ofString (toString v.2) from rfl, es]
        exact eq
      have es3 : strIF [.int v.2] = .ret (.str (Str.ofString (toString v.2))) := strIF_ok (by have := hv2.2.2.1; have := hv2.2.2.2; omega)
      simp [ej, es3]
      rw [grd_pos (by unfold big; omega), grd_pos (by rw [len_app]; unfold big; omega)]
      rfl
    have etk := take_rows hj (headS (kindW b) m)
    generalize (headS (kindW b) m :: ((m.rows.take j).map rowS).flatten).map D.str = L at tl0 etk
    refine wb_seq ?_
    refine wb_eq (by simp; rfl) ?_
    refine wb_grd (by unfold big; omega) ?_
    refine wb_ret ?_
    dsimp only
    refine wb_eq (by simp [hcm]; rfl) ?_
    repeat refine wb_grd (by unfold big; omega) ?_
    refine wb_ret ?_
    refine ⟨some (.fz (rowD r)), ?_⟩
    rw [etk]
    simp
  · rintro env ⟨x3, rfl⟩
    rw [List.length_map, List.take_length]
    dsimp only
    rw [show (headS (kindW b) m :: (m.rows.map rowS).flatten).map D.str = (linesM (kindW b) m).map D.str from rfl]
    generalize linesM (kindW b) m = LS
    refine wb_eq (by simp; rfl) ?_
    refine wb_ret ?_
    exact wb_ret rfl
end Gx
set_option Elab.async false
set_option linter.all false
set_option maxRecDepth 100000
set_option maxHeartbeats 600000
namespace Gx
open PySem L2 Stp NdefX LamX Pu
open PyProof.Rows hiding St tupItems
open TL
abbrev L2q : EqL := [(1, c_26004.1), (2, c_27004.1)]
theorem isi_WR {m : Mch} : isiF kTb [objD 1 m, .cls 2] = .ret (.bl false) := rfl
theorem isi_RW {m : Mch} : isiF kTb [objD 2 m, .cls 1] = .ret (.bl false) := rfl
theorem ne_bl (a b : Bool) : neD (.bl a) (.bl b) = .ret (.bl (a != b)) := by cases a <;> cases b <;> rfl
theorem eq_bl (a b : Bool) : eqD (.bl a) (.bl b) = .ret (.bl (a == b)) := by cases a <;> cases b <;> rfl
theorem sh_text {x : Str} (h : x.length ≤ 17000) (h2 : Low x) : ShD 17000 0 (.str x) := ⟨by
  show (x.cps.toList.all fun c => decide (c < 16 ^ 8)) = true
  rw [List.all_eq_true]
  intro c m
  have := h2 c m
  exact decide_eq_true (Nat.lt_trans this (by decide)), h, Nat.le_refl _⟩
theorem repr_text {x : Str} (h : x.length ≤ 17000) (h2 : Low x) : reprF [.str x] = .ret (.str (shw (.str x))) := reprF_ok (sh_text h h2)
theorem head_split {word : Str} {m : Mch} (h : NumOk m) (h2 : Free 32 word) : Txt.split (headS word m) " " = [word, numS m.many.toNat, numS m.kinds.toNat] := by
  have a := h.m1
  have c := h.k1
  unfold headS
  rw [strI_num (by omega), strI_num (by omega)]
  exact split_three h2 (free_num (by decide)) (free_num (by decide))
theorem join_due {b : Bool} {m : Mch} {k : Int} {ln moves : Nat} (h : TxOk m k ln moves) : joinD "\n" (.lst ((linesM (kindW b) m).map .str)) = .ret (.str (textM (kindW b) m)) := by
  obtain ⟨t1, _⟩ := text_facts h (kindW_len b) (kindW_low b) (kindW_free b)
  rw [joinD_lst, strL_mapS]
  exact grd_pos (by unfold big; omega)
theorem sh_three {m : Mch} (h : ShD 7600 4 (tabD m.rows)) (hn : NumOk m) : ShD 19000 5 (.lst [tabD m.rows, .int m.many, .int m.kinds]) := by
  refine ⟨?_, ?_, ?_⟩
  · have h1 := h.lv
    have h2 : lvD (.int m.many) = true := by simp [lvD]; have := hn.m1; have := hn.m2; omega
    have h3 : lvD (.int m.kinds) = true := by simp [lvD]; have := hn.k1; have := hn.k2; omega
    show lvL _ = true
    simp [lvL, h1, h2, h3]
  · have h1 := h.bk
    show bkL _ ≤ _
    simp [bkL, bkD]
    omega
  · have h1 := h.dp
    show dpL _ + 1 ≤ _
    simp [dpL, dpD]
    omega
theorem ne_sameW {m : Mch} : neU L2q eTys (objD 1 m) (objD 1 m) = .ret (.bl false) := neU_objD (mf := c_26004.1) rfl rfl (by decide) e_eqW
theorem e_madeW {m : Mch} (h : WOk m) : c_57.1 [lawD m, .bl true] = .ret (objD 1 m) := by
  delta c_57
  dsimp only
  simp [startE, N_57, e_writer_of h]
theorem e_formatW {m : Mch} (h : WOk m) : c_34.1 [objD 1 m] = .ret (.str (textM (kindW true) m)) := by
  have e := e_format (c := 1) (by decide) (txW h) (kindW_len true) (kindW_low true) (kindW_free true)
  delta c_34
  dsimp only
  simp [startE, N_34]
  exact e
theorem readW {m : Mch} (h : WOk m) : readR (sgO m.many) 24 12 (m.kinds+1).toNat (linesM (kindW true) m) = .ok m.rows := by
  have t1 := h.tab.le
  have x := txW h
  refine readR_lines (k := m.many) (lat := m.rows.length) rfl (by omega) (by omega) x.ne fun r hr => ⟨(x.row r hr).1, fun v hv => ⟨(x.row r hr).2 v hv, fun i hi => ?_⟩⟩
  have hw := (h.tab.mv r hr v hv).2.1 i hi
  have k1 := x.k1
  have ht := h.tab.mv r hr v hv
  first | exact sgO_num (by omega) (by omega) (by omega) | exact evO_ev (by omega) (by omega) (by omega)
theorem e_parseW {m : Mch} (h : WOk m) : c_43.1 [.str (textM (kindW true) m)] = .ret (objD 1 m) := by
  have x := txW h
  obtain ⟨_, t2, _, t4⟩ := text_facts x (kindW_len true) (kindW_low true) (kindW_free true)
  obtain ⟨l1, l2⟩ := lines_facts x (kindW_len true) (kindW_low true) (kindW_free true)
  refine e_parse_writer h (l0 := headS (kindW true) m) (ls := (m.rows.map rowS).flatten) (by unfold big; omega) t4 ?_ ?_ ?_ ?_
  · have : (headS (kindW true) m :: (m.rows.map rowS).flatten).length ≤ 400 := l1
    omega
  · intro l hl
    have := (l2 l hl).1
    omega
  · exact head_split h.num (free_dec (by kernel_rfl))
  · exact readW h
theorem sh_rowsW {m : Mch} (h : WOk m) : ShD 19000 5 (.lst [tabD m.rows, .int m.many, .int m.kinds]) := by
  have n1 := h.num.m1
  have n2 := h.num.m2
  have k1 := h.num.k1
  have k2 := h.num.k2
  have t1 := h.tab.le
  exact sh_three (sh_tabM h.tab (by omega) (by omega) (by decide) (by omega) (by omega)) h.num
theorem ne_sameR {m : Mch} : neU L2q eTys (objD 2 m) (objD 2 m) = .ret (.bl false) := neU_objD (mf := c_27004.1) rfl rfl (by decide) e_eqR
theorem e_madeR {m : Mch} (h : ROk m) : c_57.1 [lawD m, .bl false] = .ret (objD 2 m) := by
  delta c_57
  dsimp only
  simp [startE, N_57, e_reader_of h]
theorem e_formatR {m : Mch} (h : ROk m) : c_35.1 [objD 2 m] = .ret (.str (textM (kindW false) m)) := by
  have e := e_format (c := 2) (by decide) (txR h) (kindW_len false) (kindW_low false) (kindW_free false)
  delta c_35
  dsimp only
  simp [startE, N_35]
  exact e
theorem readR {m : Mch} (h : ROk m) : readR (evO m.kinds) 40 8 m.many.toNat (linesM (kindW false) m) = .ok m.rows := by
  have t1 := h.tab.le
  have x := txR h
  refine readR_lines (k := m.kinds) (lat := m.rows.length) rfl (by omega) (by omega) x.ne fun r hr => ⟨(x.row r hr).1, fun v hv => ⟨(x.row r hr).2 v hv, fun i hi => ?_⟩⟩
  have hw := (h.tab.mv r hr v hv).2.1 i hi
  have k1 := x.k1
  have ht := h.tab.mv r hr v hv
  first | exact sgO_num (by omega) (by omega) (by omega) | exact evO_ev (by omega) (by omega) (by omega)
theorem e_parseR {m : Mch} (h : ROk m) : c_44.1 [.str (textM (kindW false) m)] = .ret (objD 2 m) := by
  have x := txR h
  obtain ⟨_, t2, _, t4⟩ := text_facts x (kindW_len false) (kindW_low false) (kindW_free false)
  obtain ⟨l1, l2⟩ := lines_facts x (kindW_len false) (kindW_low false) (kindW_free false)
  refine e_parse_reader h (l0 := headS (kindW false) m) (ls := (m.rows.map rowS).flatten) (by unfold big; omega) t4 ?_ ?_ ?_ ?_
  · have : (headS (kindW false) m :: (m.rows.map rowS).flatten).length ≤ 400 := l1
    omega
  · intro l hl
    have := (l2 l hl).1
    omega
  · exact head_split h.num (free_dec (by kernel_rfl))
  · exact readR h
theorem sh_rowsR {m : Mch} (h : ROk m) : ShD 19000 5 (.lst [tabD m.rows, .int m.many, .int m.kinds]) := by
  have n1 := h.num.m1
  have n2 := h.num.m2
  have k1 := h.num.k1
  have k2 := h.num.k2
  have t1 := h.tab.le
  exact sh_three (sh_tabM h.tab (by omega) (by omega) (by decide) (by omega) (by omega)) h.num
end Gx
set_option Elab.async false
set_option linter.all false
set_option maxRecDepth 100000
set_option maxHeartbeats 600000
namespace Gx
open PySem L2 Stp NdefX LamX Pu
open PyProof.Rows hiding St tupItems
def wideT : List (List Mv) := (List.range 24).map fun (k : Nat) => List.replicate 7 (List.replicate 12 5, ((k : Int) + 1) % 24)
def tallT : List (List Mv) := (List.range 40).map fun (k : Nat) => List.replicate 6 ([-2, -1, 0, 1, 2, 3, 4, 5], 39 - (k : Int))
theorem ok_wide : WOk ⟨6, 6, wideT⟩ := ⟨⟨by decide, by decide, by decide, by decide⟩, tabB_ok (by kernel_rfl)⟩
theorem ok_tall : ROk ⟨6, 6, tallT⟩ := ⟨⟨by decide, by decide, by decide, by decide⟩, tabB_ok (by kernel_rfl)⟩
theorem ok_nW : WOk ⟨2, 1, [[([], 0), ([], 0)]]⟩ := ⟨⟨by decide, by decide, by decide, by decide⟩, tabB_ok (by kernel_rfl)⟩
theorem ok_nR : ROk ⟨2, 1, [[([-1], 0), ([], 0)]]⟩ := ⟨⟨by decide, by decide, by decide, by decide⟩, tabB_ok (by kernel_rfl)⟩
def CaseM (d : D) : Prop := ∃ m, (d = .tup [lawD m, .bl true] ∧ WOk m) ∨ (d = .tup [lawD m, .bl false] ∧ ROk m)
def AllM (L : List D) : Prop := ∀ d ∈ L, CaseM d
theorem AllM.snoc {L : List D} {d : D} (h : AllM L) (k : CaseM d) : AllM (L ++ [d]) := fun x hx => (List.mem_append.mp hx).elim (h x) fun z => by rw [List.mem_singleton.mp z]; exact k
theorem d_machine6 : Wb 200100 (c_56.1 [.pen, .int 6]) (fun _ d => CaseM d) XF := by
  delta c_56
  dsimp only
  refine wb_runF (wb_seq ?_)
  refine wb_eq (by simp [startE, N_56, e_draw]; rfl) ?_
  (first | with_reducible refine wb_bind ?_ | with_reducible refine wb_bindX ?_ | skip); refine wb_drawF (by omega) (by omega) (by omega) fun a a1 a2 => ?_
  refine wb_eq (by simp; rfl) ?_
  (first | with_reducible refine wb_bind ?_ | with_reducible refine wb_bindX ?_ | skip); refine wb_drawF (by omega) (by omega) (by omega) fun b b1 b2 => ?_
  refine wb_eq (by simp; rfl) ?_
  (first | with_reducible refine wb_bind ?_ | with_reducible refine wb_bindX ?_ | skip); refine wb_drawF (by omega) (by omega) (by omega) fun c c1 c2 => ?_
  refine wb_eq (by simp; rfl) ?_
  (refine wb_ret ?_; try dsimp only)
  refine wb_seq (wb_if ?_)
  refine wb_eq (by simp; rfl) ?_
  (refine wb_ret ?_; try dsimp only)
  by_cases hc : c = 0
  · simp only [hc]
    simp
    refine wb_callX (d_writer (many := 2 + a) (kinds := 1 + b) (most := 6) (lng := 3) (by omega) (by omega) (by omega) (by omega) (by omega) (by omega) (by omega) (by omega)) (by omega) ?_
    rintro _ ⟨m, rfl, h1, h2, h3, h4⟩
    simp
    refine wb_ret ?_
    exact wb_ret ⟨m, .inl ⟨rfl, h1⟩⟩
  · simp [hc]
    (refine wb_ret ?_; try dsimp only)
    refine wb_eq (by simp; rfl) ?_
    (first | with_reducible refine wb_callB (d_reader (many := 2 + a) (kinds := 1 + b) (most := 6) (lng := 3) (by omega) (by omega) (by omega) (by omega) (by omega) (by omega) (by omega) (by omega)) (by omega) ?_ | with_reducible refine wb_callX (d_reader (many := 2 + a) (kinds := 1 + b) (most := 6) (lng := 3) (by omega) (by omega) (by omega) (by omega) (by omega) (by omega) (by omega) (by omega)) (by omega) ?_ | with_reducible refine wb_call (d_reader (many := 2 + a) (kinds := 1 + b) (most := 6) (lng := 3) (by omega) (by omega) (by omega) (by omega) (by omega) (by omega) (by omega) (by omega)) (by omega) ?_); rintro _ ⟨m, rfl, h1, h2, h3, h4⟩
    simp
    refine wb_ret ?_
    exact wb_ret ⟨m, .inr ⟨rfl, h1⟩⟩
theorem e_wide : qComp (rng1 (qC (D.int 24))) (Pt.nm 9) (List.map (fun x => x.snd) [(Str.ofString "_law_k", 9)]) (fun x => T.ret true) (qComp (rng1 (qC (D.int 7))) (Pt.nm 14) (List.map (fun x => x.snd) [(Str.ofString "_law_j", 14)]) (fun x => T.ret true) (qN (fun ds => grd (ds.length ≤ big) (T.ret (D.tup ds))) (aCons (q2 mulD (qN (fun ds => grd (ds.length ≤ big) (T.ret (D.tup ds))) (aCons (qC (D.int 5)) aNil)) (qC (D.int 12))) (aCons (q2 modD (qN intF (aCons (q2 addD (qVar 9) (qC (D.int 1))) aNil)) (qC (D.int 24))) aNil)))) (lawE N_60.length 1) = T.ret (tabD wideT) := by kernel_rfl
theorem e_tall : qComp (rng1 (qC (D.int 40))) (Pt.nm 9) (List.map (fun x => x.snd) [(Str.ofString "_law_k", 9)]) (fun x => T.ret true) (qComp (rng1 (qC (D.int 6))) (Pt.nm 14) (List.map (fun x => x.snd) [(Str.ofString "_law_j", 14)]) (fun x => T.ret true) (qN (fun ds => grd (ds.length ≤ big) (T.ret (D.tup ds))) (aCons (qN (fun ds => grd (ds.length ≤ big) (T.ret (D.tup ds))) (aCons (q1 negD (qC (D.int 2))) (aCons (q1 negD (qC (D.int 1))) (aCons (qC (D.int 0)) (aCons (qC (D.int 1)) (aCons (qC (D.int 2)) (aCons (qC (D.int 3)) (aCons (qC (D.int 4)) (aCons (qC (D.int 5)) aNil))))))))) (aCons (q2 subD (qC (D.int 39)) (qVar 9)) aNil)))) ((lawE N_60.length 1).set 2 (some (.fz (tabD wideT)))) = T.ret (tabD tallT) := by kernel_rfl
def E_out  (env : Pu.Env) : Prop := ∃ (x2 x3 x4 x5 x6 x7 x8 x9 x10 x11 x12 x13 x14 : Option O), env = [none, some (.fz .pen), x2, x3, x4, x5, x6, x7, x8, x9, x10, x11, x12, x13, x14]
def E_c (L : List D) (env : Pu.Env) : Prop := ∃ (x2 x3 x5 x6 x7 x8 x9 x10 x11 x12 x13 x14 : Option O), env = [none, some (.fz .pen), x2, x3, some (.ls L), x5, x6, x7, x8, x9, x10, x11, x12, x13, x14]
def E_m (mach b made due : D) (env : Pu.Env) : Prop := ∃ (x2 x3 x4 x5 x8 x9 x12 x13 x14 : Option O), env = [none, some (.fz .pen), x2, x3, x4, x5, some (.fz mach), some (.fz b), x8, x9, some (.fz made), some (.fz due), x12, x13, x14]
def I_c (n : Nat) (e : Pu.Env) : Prop := ∃ L, E_c L e ∧ AllM L ∧ L.length ≤ n
theorem lawW : Wb 1000000000 (b_60.1 (lawE N_60.length 1)) (fun _ r => r = .rt (.bl true)) XF := by
  delta b_60
  dsimp only
  refine wb_seq (wb_asg ?_)
  refine wb_eq e_wide ?_
  refine wb_ret ?_
  dsimp only
  refine wb_seq (wb_asg ?_)
  refine wb_eq e_tall ?_
  refine wb_ret ?_
  dsimp only
  refine wb_seq ?_
  refine wb_eq (by simp [lawE, N_60]; rfl) ?_
  (refine wb_ret ?_; try dsimp only)
  refine wb_seq ?_
  refine wb_eq (by simp; rfl) ?_
  (refine wb_ret ?_; try dsimp only)
  have a0 : AllM [.tup [.tup [.int 6, .int 6, tabD wideT], .bl true], .tup [.tup [.int 6, .int 6, tabD tallT], .bl false], .tup [.tup [.int 2, .int 1, .lst [.lst [.tup [.tup [], .int 0], .tup [.tup [], .int 0]]]], .bl true], .tup [.tup [.int 2, .int 1, .lst [.lst [.tup [.tup [.int (-1)], .int 0], .tup [.tup [], .int 0]]]], .bl false]] := fun d hd => by
    simp only [List.mem_cons, List.not_mem_nil, or_false] at hd
    rcases hd with rfl | rfl | rfl | rfl
    · exact ⟨_, .inl ⟨rfl, ok_wide⟩⟩
    · exact ⟨_, .inr ⟨rfl, ok_tall⟩⟩
    · exact ⟨_, .inl ⟨rfl, ok_nW⟩⟩
    · exact ⟨_, .inr ⟨rfl, ok_nR⟩⟩
  refine wb_seq (wb_for ?_)
  refine wb_eq (by simp; rfl) ?_
  (refine wb_ret ?_; try dsimp only)
  refine wb_forI 1000000 (fun j e => I_c (4 + j) e) ⟨_, ⟨_, _, _, _, _, _, _, _, _, _, _, _, rfl⟩, a0, by simp⟩ (by decide) ?_ ?_
  · rintro j y env hy ⟨L, hE, aL, nL⟩
    obtain ⟨x2, x3, x5, x6, x7, x8, x9, x10, x11, x12, x13, x14, rfl⟩ := hE
    obtain ⟨hj, rfl⟩ := rngL_at _ _ _ _ hy
    refine ⟨_, rfl, ?_⟩
    dsimp only [List.set]
    refine wb_eq (by simp; rfl) ?_
    (first | with_reducible refine wb_callB (d_machine6) (by omega) ?_ | with_reducible refine wb_callX (d_machine6) (by omega) ?_ | with_reducible refine wb_call (d_machine6) (by omega) ?_); rintro d hd
    refine wb_grd (by unfold big; omega) ?_
    exact wb_ret ⟨L ++ [d], ⟨_, _, _, _, _, _, _, _, _, _, _, _, rfl⟩, aL.snoc hd, by simp; omega⟩
  rintro e ⟨L, hE, aL, nL⟩
  obtain ⟨x2, x3, x5, x6, x7, x8, x9, x10, x11, x12, x13, x14, rfl⟩ := hE
  rw [rngL_len] at nL
  dsimp only
  refine wb_seq (wb_for ?_)
  refine wb_eq (by simp [frzE]; rfl) ?_
  (refine wb_ret ?_; try dsimp only)
  refine wb_forI 0 (fun _ => E_out) ⟨_, _, _, _, _, _, _, _, _, _, _, _, _, rfl⟩ (by omega) ?_ ?_
  · rintro j d env hd ⟨x2, x3, x4, x5, x6, x7, x8, x9, x10, x11, x12, x13, x14, rfl⟩
    obtain ⟨m, hm⟩ := aL d (List.mem_of_getElem? hd)
    rcases hm with ⟨rfl, h⟩ | ⟨rfl, h⟩
    · refine ⟨_, rfl, ?_⟩
      dsimp only [List.set, putL]
      have emk := e_madeW h
      have ell := e_llines (b := true) (txW h)
      have ejd := join_due (b := true) (txW h)
      have ef := e_formatW h
      have ep := e_parseW h
      obtain ⟨_, t2, t3, _⟩ := text_facts (txW h) (kindW_len true) (kindW_low true) (kindW_free true)
      have er := repr_text t2 t3
      have es := reprF_ok (sh_rowsW h)
      have nes := ne_sameW (m := m)
      have i0 : ofO (atI [D.int m.many, D.int m.kinds, tabD m.rows] 0) = .ret (.int m.many) := rfl
      have i1 : ofO (atI [D.int m.many, D.int m.kinds, tabD m.rows] 1) = .ret (.int m.kinds) := rfl
      have i2 : ofO (atI [D.int m.many, D.int m.kinds, tabD m.rows] 2) = .ret (tabD m.rows) := rfl
      refine wb_seq ?_
      refine wb_eq (by simp [emk, ell, ejd]; rfl) ?_
      refine wb_ret ?_
      dsimp only
      refine wb_for ?_
      refine wb_eq (by simp; rfl) ?_
      refine wb_ret ?_
      refine wb_forI 0 (fun _ => E_m (lawD m) (.bl true) (objD 1 m) (.str (textM (kindW true) m))) ⟨_, _, _, _, _, _, _, _, _, rfl⟩ (by omega) ?_ ?_
      · rintro j2 d2 env hd2 ⟨x2, x3, x4, x5, x8, x9, x12, x13, x14, rfl⟩
        refine ⟨_, rfl, ?_⟩
        dsimp only [List.set]
        refine wb_seq ?_
        refine wb_eq (by simp [ef]; rfl) ?_
        (refine wb_ret ?_; try dsimp only)
        refine wb_seq ?_
        refine wb_eq (by simp [ep]; rfl) ?_
        (refine wb_ret ?_; try dsimp only)
        refine wb_seq (wb_ifno ?_ ?_)
        · simp [er, nes, emk]
        refine wb_ret ?_
        dsimp only
        refine wb_seq (wb_ifno ?_ ?_)
        · simp [isi_objW, isi_WR, ne_bl, eq_bl]
        refine wb_ret ?_
        dsimp only
        refine wb_ifno ?_ (wb_ret ⟨_, _, _, _, _, _, _, _, _, rfl⟩)
        simp [e_prop1 (c := 1) (by decide), e_prop2 (c := 1) (by decide), e_rowsM (c := 1) (m := m) (by decide) (by have := h.tab.le; omega), es, lawD, i0, i1, i2]
      · rintro e ⟨x2, x3, x4, x5, x8, x9, x12, x13, x14, rfl⟩
        exact ⟨_, _, _, _, _, _, _, _, _, _, _, _, _, rfl⟩
    · refine ⟨_, rfl, ?_⟩
      dsimp only [List.set, putL]
      have emk := e_madeR h
      have ell := e_llines (b := false) (txR h)
      have ejd := join_due (b := false) (txR h)
      have ef := e_formatR h
      have ep := e_parseR h
      obtain ⟨_, t2, t3, _⟩ := text_facts (txR h) (kindW_len false) (kindW_low false) (kindW_free false)
      have er := repr_text t2 t3
      have es := reprF_ok (sh_rowsR h)
      have nes := ne_sameR (m := m)
      have i0 : ofO (atI [D.int m.many, D.int m.kinds, tabD m.rows] 0) = .ret (.int m.many) := rfl
      have i1 : ofO (atI [D.int m.many, D.int m.kinds, tabD m.rows] 1) = .ret (.int m.kinds) := rfl
      have i2 : ofO (atI [D.int m.many, D.int m.kinds, tabD m.rows] 2) = .ret (tabD m.rows) := rfl
      refine wb_seq ?_
      refine wb_eq (by simp [emk, ell, ejd]; rfl) ?_
      refine wb_ret ?_
      dsimp only
      refine wb_for ?_
      refine wb_eq (by simp; rfl) ?_
      refine wb_ret ?_
      refine wb_forI 0 (fun _ => E_m (lawD m) (.bl false) (objD 2 m) (.str (textM (kindW false) m))) ⟨_, _, _, _, _, _, _, _, _, rfl⟩ (by omega) ?_ ?_
      · rintro j2 d2 env hd2 ⟨x2, x3, x4, x5, x8, x9, x12, x13, x14, rfl⟩
        refine ⟨_, rfl, ?_⟩
        dsimp only [List.set]
        refine wb_seq ?_
        refine wb_eq (by simp [ef]; rfl) ?_
        (refine wb_ret ?_; try dsimp only)
        refine wb_seq ?_
        refine wb_eq (by simp [ep]; rfl) ?_
        (refine wb_ret ?_; try dsimp only)
        refine wb_seq (wb_ifno ?_ ?_)
        · simp [er, nes, emk]
        refine wb_ret ?_
        dsimp only
        refine wb_seq (wb_ifno ?_ ?_)
        · simp [isi_RW, isi_objR, ne_bl, eq_bl]
        refine wb_ret ?_
        dsimp only
        refine wb_ifno ?_ (wb_ret ⟨_, _, _, _, _, _, _, _, _, rfl⟩)
        simp [e_prop1 (c := 2) (by decide), e_prop2 (c := 2) (by decide), e_rowsM (c := 2) (m := m) (by decide) (by have := h.tab.le; omega), es, lawD, i0, i1, i2]
      · rintro e ⟨x2, x3, x4, x5, x8, x9, x12, x13, x14, rfl⟩
        exact ⟨_, _, _, _, _, _, _, _, _, _, _, _, _, rfl⟩
  · rintro e ⟨x2, x3, x4, x5, x6, x7, x8, x9, x10, x11, x12, x13, x14, rfl⟩
    dsimp only
    refine wb_retS ?_
    refine wb_eq (by simp; rfl) ?_
    exact wb_ret rfl
theorem lawT : lawOk N_60.length 1 b_60.1 := @lawOk_wb N_60.length 1 b_60.1 1000000000 (by decide) lawW
end Gx
set_option Elab.async false
set_option linter.all false
set_option maxRecDepth 100000
open PySem PySem.W PyProof.Rows in
set_option maxRecDepth 100000 in
set_option maxHeartbeats 0 in
theorem PySem.Challenge.cw_stepsagain_k08_texts_of_machines_holds : PySem.Challenge.rw_stepsagain_k08_texts_of_machines.Holds :=
  Gx.holds Gx.lawT
