import PyProof.Rows.All
import Wide.All
import OpenK.AllK
import Wide.FinOn
import HandS.ForMost
import HandS.ForExc
import HandS.Defaults
import HandS.HeadHook2
import HandS.Lambda
import HandS.HeadHook4
import KE.KDictKeyed
import KE.KeyNested
import HandS.IsInst
import HandS.Zip
import HandS.TupAny
import HandS.Wide
import HandS.HeadEnd
import HandS.HeadWalk
import HandS.Property
import HandS.FStr
import HandS.Style
import KE.KOpsOwn
import OpenK.KMeth
import HandS.MakeKw
import PyProof.InstNe
import PyProof.Conv_bool
import KE.GoesNew
import KE.GoesMore
import KE.GoesZip
import KE.GoesEnum
import HandS.More
import PyProof.StrOps2
import HandS.ClsMeth
import HandS.Star
import HandS.MethStar
import KE.KExcSuper
import KE.KExcInit
import HandS.ExcInit
import HandS.ExcOwn
import HandS.ExcValue
import HandS.ExcField
import KE.KTryMore
import KE.KDflt
import PyProof.InstSpecial
import HandS.Conv
import PyProof.P3Eq
import HandS.DictTup
import HandS.TupLen
import KE.KDictDisplayH
import KE.KDictItemsList
import KE.KDictCopyH
import HandS.DictComp
import HandS.DictEq
import KE.KUnpackStar
import HandS.SortRule
import HandS.SortKw
import HandS.TupLe
import KE.KDictList
import HandS.StrMore
import HandS.Head0
import HandS.Head1
import HandS.Head2
import KE.KUnpack
import PyProof.Rows.Range3
import KE.KDictPairs
import HandS.OwnEq
import KE.GoesRaise
import HandS.Text
import PyProof.Rows.CallKw2
import KE.KExcIs
import KE.KExcPX
import KE.KEqNest
import KE.KxField
import PyProof.FString3
import PyProof.Rows.StrMeet
import KE.SortData
import HandS.List
import HandS.GenList
import KE.KDictZip
import KE.KTurns
import HandS.Replace
import KE.SortKeyHeap
import PyProof.FactsLen
import PyProof.DictStraight
import PyProof.Rows.InDataRows
import HandS.SetBool
import HandS.Strs
import HandS.Comp
import PyProof.DictValues
import HandS.SetTxt0
import HandS.Set
import HandS.Dict
import HandS.GenOver
import KE.KStateDown
import PySem.Challenge.RW_overscrawl_k10_whole_rows_of_deeds
set_option Elab.async false
set_option linter.all false
set_option maxRecDepth 100000
set_option maxHeartbeats 4000000
namespace Dl
open PySem PySem.Spec PyProof.Rows L2
class TheW where
  w : World
abbrev mkS (x : List Nat) : Str := ⟨x.toArray⟩
def lamDefs : List He.Defn := [("law", none), ("products_of", none), ("_law_spread", none), ("_law_far_told", none), ("_law_beyond", none), ("_law_full_shelf", none), ("_law_book_deed", none), ("_law_full_pages", none), ("_law_moved", none)]
end Dl
namespace Dl
open PySem PySem.Spec PyProof.Rows L2
variable [TheW]
section
variable {X : Cx} {K : PySem.W.Frag} {n : En} {e a b : Expr} {es : List Expr} {pos : Pos}
inductive Ty where
  | ty (n : String) | own (c : Str)
  deriving DecidableEq
def Ty.v (K : PySem.W.Frag) : Ty → Value
  | .ty n => .type n
  | .own c => .ref (He.ga K c)
end
end Dl
namespace Dl
open PySem PySem.Spec PyProof.Rows L2
variable [TheW]
def goodB (K : PySem.W.Frag) : Ty → Bool
  | .ty _ => true
  | .own c => (He.Fa.cls c).ok K && (He.eqO (PySem.W.findIn K (.ref (He.ga K c)) "__class__") (some (some (.builtin "object.__class__"))) && (He.eqO (PySem.W.specialIn K (.builtin "object.__class__") "__get__") (some (some (.builtin "getset_descriptor.__get__"))) &&
    (decide (PySem.W.takesIn K (.builtin "object.__class__") = some true) && decide (PySem.W.mroIn K (He.ga K c) (.type "object") = some true))))
def tblB (K : PySem.W.Frag) (tbl : List ((Ty × Ty) × Bool)) : Bool := tbl.all fun e => goodB K e.1.1 && decide (PySem.W.kitOne K (e.1.1.v K) (e.1.2.v K) = some e.2)
def prP (K : PySem.W.Frag) (c m : Str) : Addr := He.ma K (He.ga K c) m
def prG (K : PySem.W.Frag) (c m : Str) : Addr := match PySem.W.recIn K (prP K c m) "property" with
  | some (.ref g :: _) => g
  | _ => 0
def fnA (K : PySem.W.Frag) (a : Addr) : He.FnW := match K.lookup a with
  | some ⟨_, _, .func fd, _⟩ => some (fd.name, fd.qualname, fd.params, fd.body, fd.scope, fd.globals, fd.closure, fd.builtins)
  | _ => none
structure PrF where
  c : Str
  m : Str
  qual : Str
  st : Stmt
  /-- the __init__ of an exception class: it closes over __class__ -/
  xi : Bool := false
  /-- a staticmethod -/
  sm : Bool := false
def fnZ (K : PySem.W.Frag) (a : Addr) : He.FnW := match K.lookup a with
  | some ⟨_, _, .func fd, _⟩ => some (fd.name, fd.qualname, fd.params, fd.body, fd.scope, fd.globals, fd.closure.map (fun q => (q.1, 0)), fd.builtins)
  | _ => none
def smA (K : PySem.W.Frag) (c m : Str) : Addr := match PySem.W.recIn K (prP K c m) "staticmethod" with
  | some (.ref g :: _) => g
  | _ => match PySem.W.recIn K (prP K c m) "classmethod" with
    | some (.ref g :: _) => g
    | _ => 0
def prV (K : PySem.W.Frag) (d : PrF) : He.FnW := bif d.xi then fnZ K (prP K d.c d.m) else bif d.sm then fnA K (smA K d.c d.m) else fnA K (prG K d.c d.m)
def PrF.val (d : PrF) : He.FnW := some (d.m, d.qual, defArgs d.st, .stmts (defBody d.st), defScope d.st, mainGlobals, (bif d.xi then [("__class__", 0)] else []), builtinsNs)
def PrF.ok (K : PySem.W.Frag) (d : PrF) : Bool := d.xi || d.sm || He.eqO (PySem.W.findIn K (.ref (He.ga K d.c)) d.m) (some (some (.ref (prP K d.c d.m)))) && (He.eqO (PySem.W.specialIn K (.ref (prP K d.c d.m)) "__get__") (some (some (.builtin "property.__get__"))) &&
  (decide (PySem.W.takesIn K (.ref (prP K d.c d.m)) = some true) && ((match PySem.W.recIn K (prP K d.c d.m) "property" with
    | some (.ref _ :: _) => true
    | _ => false) && (PySem.W.keepIn K (.ref (prG K d.c d.m)) && (match K.lookup (prG K d.c d.m) with
      | some ⟨_, _, .func fd, _⟩ => PySem.W.codeIn K fd.code d.qual && (He.dflB K fd.defaults [] && He.kwdB K fd.kwdefaults [])
      | _ => false)))))
abbrev AlP : Type := He.AlX × List He.FnW
def exP (ps : List PrF) (tf : List He.Defn) (ex : PySem.W.Frag → Bool) (K : PySem.W.Frag) : Bool := ps.all (fun d => d.ok K) && (ex K && lamDefs.all fun p => tf.contains p || !PySem.W.codeHdIn K (He.cT K p).1 (He.cT K p).2)
structure SaysP (fa : List He.Fa) (fn : List He.DefD) (ps : List PrF) (tf : List He.Defn) (ex : PySem.W.Frag → Bool) (w : World) (h : Heap) (K : PySem.W.Frag) : Prop where
  x : He.SaysX fa fn [] tf (exP ps tf ex) w h K
  p : ps.map (prV K) = ps.map PrF.val
omit [TheW] in
theorem saysQ_of {as : List Addr} {fa : List He.Fa} {fn : List He.DefD} {ts : List He.Tab} {tf : List He.Defn} {ex : PySem.W.Frag → Bool} {w : World} {h : Heap} (e : ((He.obsT fa fn ts (He.frT h.get? as), ex (He.frT h.get? as) && He.tabsB h.get? tf (He.frT h.get? as)) : He.AlX) = He.valX fn ts w) : He.SaysX fa fn ts tf ex w h (He.frT h.get? as) := by
  have e1 : He.obsT fa fn ts (He.frT h.get? as) = He.valT fn ts w := congrArg (fun z : He.AlX => z.1) e
  have e2 : (ex (He.frT h.get? as) && He.tabsB h.get? tf (He.frT h.get? as)) = true := congrArg (fun z : He.AlX => z.2) e
  obtain ⟨h1, h2⟩ := He.ba e2
  have key : ∀ p ∈ tf, PySem.W.codeHdIn (He.frT h.get? as) (He.cT (He.frT h.get? as) p).1 (He.cT (He.frT h.get? as) p).2 = true ∧ ∃ o, h.get? (He.cT (He.frT h.get? as) p).2 = some o ∧ He.emptyTab o = true := fun p hp => by
    obtain ⟨h3, h4⟩ := He.ba (List.all_eq_true.mp h2 p hp)
    refine ⟨h3, ?_⟩
    cases q : h.get? (He.cT (He.frT h.get? as) p).2 with
    | none => rw [q] at h4; cases h4
    | some o => rw [q] at h4; exact ⟨o, rfl, h4⟩
  exact ⟨e1, h1, fun p hp => (key p hp).1, fun p hp => by
    obtain ⟨_, o, q, z⟩ := key p hp
    exact He.frT_none q z, fun p hp => by
    obtain ⟨_, o, q, z⟩ := key p hp
    rw [q, He.emptyTab_eq z]⟩
def clsStm (s : Stmt) (j : Nat) : Stmt := match s with
  | .ClassDef _ _ _ b _ _ _ _ _ _ _ => b.getD j (.Pass ⟨0, 0, 0, 0⟩)
  | _ => .Pass ⟨0, 0, 0, 0⟩
end Dl
namespace Dl
open PySem PySem.Spec PyProof.Rows L2
variable [TheW]
section
variable {P : Program} {w : World} {K : PySem.W.Frag} {mg : Str → Option Value} {base : Heap} {c m qual : Str} {st : Stmt} {N : List Str} {k j : Nat} {sp : DSp} {wb : DS} {ps : List Str} {pv : Str}
def bmFB (K : PySem.W.Frag) (c m : Str) : Bool := He.eqO (PySem.W.specialIn K (.ref (He.ma K (He.ga K c) m)) "__get__") (some (some (.builtin "function.__get__"))) && (decide (PySem.W.takesIn K (.ref (He.ma K (He.ga K c) m)) = some false) && (!PySem.W.copiedNames.contains m && PySem.W.fnIn K (He.ma K (He.ga K c) m)))
end
end Dl
namespace Dl
open PySem PySem.Spec PyProof.Rows L2
namespace Exi
open PySem.Calls PySem.W
def kB : Nat → String × String × String × List Value
  | 0 => ("ValueError", "ValueError.__init__", "ValueError.__new__", [.type "ValueError", .type "Exception", .type "BaseException", .type "object"])
  | 1 => ("LookupError", "LookupError.__init__", "LookupError.__new__", [.type "LookupError", .type "Exception", .type "BaseException", .type "object"])
  | _ => ("IndexError", "IndexError.__init__", "IndexError.__new__", [.type "IndexError", .type "LookupError", .type "Exception", .type "BaseException", .type "object"])
def fdA (K : Frag) (f : Addr) : Option FuncData := match K.lookup f with
  | some ⟨_, _, .func fd, _⟩ => some fd
  | _ => none
def cdA (K : Frag) (f : Addr) : Addr := match fdA K f with
  | some fd => (match fd.code with | .ref c => c | _ => 0)
  | none => 0
def ccA (K : Frag) (f : Addr) : Addr := match fdA K f with
  | some fd => (match fd.closure with | [(_, c)] => c | _ => 0)
  | none => 0
def isRef : Value → Bool
  | .ref _ => true
  | _ => false
def cdOk (K : Frag) (qual : Str) (fd : FuncData) : Bool := isRef fd.code && (codeIn K fd.code qual && (He.dflB K fd.defaults [] && He.kwdB K fd.kwdefaults []))
def xcB (K : Frag) (c qual : Str) (k : Nat) (file : Str) (fl : List Str) : Bool :=
  let C := He.ga K c
  let f := He.ma K C "__init__"
  [excInitIn K C (kB k).2.2.2 (kB k).2.2.1, He.eqO (findIn K (.ref C) "__init__") (some (some (.ref f))), isFn K (.ref f),
    (match K.lookup (cdA K f) with | some ⟨_, _, .fields cvs, _⟩ => (match (cvs[2]? : Option Value) with | some (.str x _) => decide (x = file) | _ => false) | _ => false),
    (match K.lookup (ccA K f) with | some ⟨_, _, .cell (some (.ref C')), _⟩ => decide (C' = C) | _ => false),
    (clsIn K C).isSome, decide (mroIn K C (.ref C) = some true), He.eqO (nsIn K cStatics "thirdparty.any") (some none), He.eqO (ks_superIn K C C "__init__") (some (some (.builtin (kB k).2.1))),
    decide (subIn K (.ref C) (.type (kB k).1) = some true), He.eqO (findIn K (.ref C) "__setattr__") (some (some (.builtin "object.__setattr__"))), excOver K C (kB k).2.2.2, hasDictIn K C,
    (fdA K f).any (cdOk K qual),
    (("code" : Str) :: fl).all (fun y => He.eqO (takerIn K C y) (some none)),
    decide (subIn K (.ref C) (.type "BaseException") = some true), decide (typeIn K (.ref C) = some (.type "type")), keepIn K (.ref C)].all id
end Exi
end Dl
namespace Dl
open PySem PySem.Spec PyProof.Rows L2
open HandSHeadRun in
def addE : List Addr → Nat → List Addr → Nat × List Addr
  | [], v, l => (v, l)
  | a :: r, v, l => match Nat.beq (Nat.land (Nat.shiftRight v a) 1) 1 with
    | true => addE r v l
    | false => frNat (Nat.lor v (Nat.shiftLeft 1 a)) fun v => addE r v (a :: l)
def stepE (g : Addr → Option Obj) : List Addr → Nat → List Addr → Nat × List Addr
  | [], v, nx => (v, nx)
  | a :: r, v, nx => match g a with
    | none => stepE g r v nx
    | some o => match addE (He.refsD o) v nx with
      | (v, nx) => stepE g r v nx
def bfsE (g : Addr → Option Obj) : Nat → Nat → List Addr → List Addr → List Addr
  | 0, _, fr, acc => acc ++ fr
  | n + 1, v, fr, acc => match stepE g fr v [] with
    | (v, nx) => bfsE g n v nx (acc ++ fr)
def asE (g : Addr → Option Obj) (n : Nat) : List Addr := cStatics :: bfsE g n (Nat.lor (Nat.shiftLeft 1 mainGlobals) (Nat.shiftLeft 1 cStatics)) [mainGlobals] []
def obsE (n : Nat) (fa : List He.Fa) (fn : List He.DefD) (ps : List PrF) (tf : List He.Defn) (ex : PySem.W.Frag → Bool) (g : Addr → Option Obj) : AlP :=
  match asE g n with
  | as => match He.frT g as with
    | K => ((He.obsT fa fn [] K, exP ps tf ex K && He.tabsB g tf K), ps.map (prV K))
def hookE (n : Nat) (fa : List He.Fa) (fn : List He.DefD) (ps : List PrF) (tf : List He.Defn) (ex : PySem.W.Frag → Bool) : PySem.W.Hook where
  α := AlP
  obs := fun s => obsE n fa fn ps tf ex s.heap.get?
  val := fun w => (He.valX fn [] w, ps.map PrF.val)
  says := fun w h => ∃ K : PySem.W.Frag, K.In h ∧ SaysP fa fn ps tf ex w h K
  of := fun _ _ e => ⟨_, He.frT_in, saysQ_of (congrArg (fun z : AlP => z.1) e), congrArg (fun z : AlP => z.2) e⟩
  keeps := fun _ _ _ ⟨K, hK, c⟩ k => ⟨K, PySem.W.Frag.In.keeps hK k, ⟨c.x.t, c.x.more, c.x.hd, c.x.out, fun p hp => k _ _ (c.x.empty p hp)⟩, c.p⟩
end Dl
namespace Dl
open PySem PySem.W PySem.Calls PyProof.Rows HandSHeadRun
noncomputable abbrev endW (r : OpenRow) (M : Nat) (w : World) (os : OsState) : Option SharedT := endF (stepQ (denQ tabQ) r.prog w) M r.prog w os
theorem map_two {α β γ : Type} {o : Option α} {f : α → β} {g : α → γ} {b : β} {c : γ} (h1 : o.map f = some b) (h2 : o.map g = some c) : o.map (fun s => (f s, g s)) = some (b, c) := by
  cases o with
  | none => cases h1
  | some s =>
    have e1 := Option.some.inj h1
    have e2 := Option.some.inj h2
    show some (f s, g s) = _
    rw [e1, e2]
end Dl
namespace Dl
open PySem PySem.W PySem.Calls PyProof.Rows HandSHeadRun
noncomputable abbrev fragE (n : Nat) (s : SharedT) : PySem.W.Frag := He.frT (HandSHeadRun.getT s) (asE (HandSHeadRun.getT s) n)
theorem map_par {α β γ : Type} {o : Option α} {f : α → β} {g : α → γ} {b : β} {c : γ} (h1 : o.map f = some b) (h2 : o.map g = some c) {δ : Type} {k : α → δ} {j : β → γ → δ} (e : ∀ s, k s = j (f s) (g s)) : o.map k = some (j b c) := by
  cases o with
  | none => cases h1
  | some s =>
    have e1 := Option.some.inj h1
    have e2 := Option.some.inj h2
    show some (k s) = _
    rw [e, e1, e2]
theorem runEq_parts {r : OpenRow} {q : Program} {n : Nat} {fa : List He.Fa} {fn : List He.DefD} {ps : List PrF} {tf : List He.Defn} {ex : PySem.W.Frag → Bool} {M : Nat} {loose : List PySem.Str} {w : World}
    (h1 : ∀ os : OsState, (endW r M w os).map (fun s => looksF r.prog (boot_heap w.params) s.abs) = some true)
    (h2 : ∀ os : OsState, (endW r M w os).map (fun s => seenQ q loose (importedModules r.prog.main.body) (fun s => xlAt q [] s && recOk r.toRowW.records s) s.abs) = some (openGood q loose))
    (h3 : ∀ os : OsState, (endW r M w os).map (fun s => He.obsT fa fn [] (fragE n s)) = some (He.valT fn [] w))
    (h4 : ∀ os : OsState, (endW r M w os).map (fun s => exP ps tf ex (fragE n s) && He.tabsB (HandSHeadRun.getT s) tf (fragE n s)) = some true)
    (h5 : ∀ os : OsState, (endW r M w os).map (fun s => ps.map (prV (fragE n s))) = some (ps.map PrF.val)) :
    RunEq r q (hookE n fa fn ps tf ex) (fun s => obsE n fa fn ps tf ex (HandSHeadRun.getT s)) M loose w := fun os => by
  have a := map_two (h1 os) (h2 os)
  have b := map_two (map_two (h3 os) (h4 os)) (h5 os)
  exact map_par a b (j := fun (p : Bool × _) (z : AlP) => (p.1, p.2, z)) fun s => rfl
end Dl
namespace Lk10
open PySem PySem.Spec PyProof.Rows L2 Dl
abbrev Rw : PySem.W.OpenLaw := PySem.Challenge.rw_overscrawl_k10_whole_rows_of_deeds
def top (i : Nat) : Stmt := Rw.prog.main.body.getD i (.Pass ⟨0, 0, 0, 0⟩)
abbrev s_over : Stmt := top 11
abbrev s_is_sizes : Stmt := top 10
abbrev s_Board___init__ : Stmt := clsStm (top 12) 1
abbrev s_Board_idle : Stmt := clsStm (top 12) 3
abbrev s_Board_rows : Stmt := clsStm (top 12) 4
abbrev s_Board_all_states : Stmt := clsStm (top 12) 5
abbrev s_Board_is_deed : Stmt := clsStm (top 12) 7
abbrev s_Board_is_state : Stmt := clsStm (top 12) 8
abbrev s_Board_need_deed : Stmt := clsStm (top 12) 10
abbrev s_Board_need_state : Stmt := clsStm (top 12) 11
abbrev s_Board_then : Stmt := clsStm (top 12) 13
abbrev s_Board_done : Stmt := clsStm (top 12) 14
abbrev s__law_cells : Stmt := top 14
abbrev s__law_draw : Stmt := top 15
abbrev s__law_any : Stmt := top 16
abbrev s__law_like : Stmt := top 17
abbrev s__law_sizes : Stmt := top 18
abbrev s__law_deed : Stmt := top 19
abbrev s__law_behind : Stmt := top 20
abbrev s_law : Stmt := top 21
abbrev s_InvalidDeed___init__ : Stmt := clsStm (top 4) 0
abbrev s_InvalidState___init__ : Stmt := clsStm (top 5) 0
namespace Hd
def D_over : He.DefD := ⟨("over", none), "over", "over", defArgs s_over, defBody s_over, defScope s_over, [], []⟩
def D_is_sizes : He.DefD := ⟨("is_sizes", none), "is_sizes", "is_sizes", defArgs s_is_sizes, defBody s_is_sizes, defScope s_is_sizes, [], []⟩
def D_Board___init__ : He.DefD := ⟨("Board", some "__init__"), "__init__", "Board.__init__", defArgs s_Board___init__, defBody s_Board___init__, defScope s_Board___init__, [], []⟩
def P_Board_idle : PrF := ⟨"Board", "idle", "Board.idle", s_Board_idle, false, false⟩
def D_Board_rows : He.DefD := ⟨("Board", some "rows"), "rows", "Board.rows", defArgs s_Board_rows, defBody s_Board_rows, defScope s_Board_rows, [], []⟩
def D_Board_all_states : He.DefD := ⟨("Board", some "all_states"), "all_states", "Board.all_states", defArgs s_Board_all_states, defBody s_Board_all_states, defScope s_Board_all_states, [], []⟩
def D_Board_is_deed : He.DefD := ⟨("Board", some "is_deed"), "is_deed", "Board.is_deed", defArgs s_Board_is_deed, defBody s_Board_is_deed, defScope s_Board_is_deed, [], []⟩
def D_Board_is_state : He.DefD := ⟨("Board", some "is_state"), "is_state", "Board.is_state", defArgs s_Board_is_state, defBody s_Board_is_state, defScope s_Board_is_state, [], []⟩
def D_Board_need_deed : He.DefD := ⟨("Board", some "need_deed"), "need_deed", "Board.need_deed", defArgs s_Board_need_deed, defBody s_Board_need_deed, defScope s_Board_need_deed, [], []⟩
def D_Board_need_state : He.DefD := ⟨("Board", some "need_state"), "need_state", "Board.need_state", defArgs s_Board_need_state, defBody s_Board_need_state, defScope s_Board_need_state, [], []⟩
def D_Board_then : He.DefD := ⟨("Board", some "then"), "then", "Board.then", defArgs s_Board_then, defBody s_Board_then, defScope s_Board_then, [], []⟩
def D_Board_done : He.DefD := ⟨("Board", some "done"), "done", "Board.done", defArgs s_Board_done, defBody s_Board_done, defScope s_Board_done, [], []⟩
def D__law_cells : He.DefD := ⟨("_law_cells", none), "_law_cells", "_law_cells", defArgs s__law_cells, defBody s__law_cells, defScope s__law_cells, [], []⟩
def D__law_draw : He.DefD := ⟨("_law_draw", none), "_law_draw", "_law_draw", defArgs s__law_draw, defBody s__law_draw, defScope s__law_draw, [], []⟩
def D__law_any : He.DefD := ⟨("_law_any", none), "_law_any", "_law_any", defArgs s__law_any, defBody s__law_any, defScope s__law_any, [], []⟩
def D__law_like : He.DefD := ⟨("_law_like", none), "_law_like", "_law_like", defArgs s__law_like, defBody s__law_like, defScope s__law_like, [], []⟩
def D__law_sizes : He.DefD := ⟨("_law_sizes", none), "_law_sizes", "_law_sizes", defArgs s__law_sizes, defBody s__law_sizes, defScope s__law_sizes, [], []⟩
def D__law_deed : He.DefD := ⟨("_law_deed", none), "_law_deed", "_law_deed", defArgs s__law_deed, defBody s__law_deed, defScope s__law_deed, [], []⟩
def D__law_behind : He.DefD := ⟨("_law_behind", none), "_law_behind", "_law_behind", defArgs s__law_behind, defBody s__law_behind, defScope s__law_behind, [], []⟩
def D_law : He.DefD := ⟨("law", none), "law", "law", defArgs s_law, defBody s_law, defScope s_law, [], []⟩
def P_InvalidDeed___init__ : PrF := ⟨"InvalidDeed", "__init__", "InvalidDeed.__init__", s_InvalidDeed___init__, true, false⟩
def P_InvalidState___init__ : PrF := ⟨"InvalidState", "__init__", "InvalidState.__init__", s_InvalidState___init__, true, false⟩
def fn : List He.DefD := [D_over, D_is_sizes, D_Board___init__, D_Board_rows, D_Board_all_states, D_Board_is_deed, D_Board_is_state, D_Board_need_deed, D_Board_need_state, D_Board_then, D_Board_done, D__law_cells, D__law_draw, D__law_any, D__law_like, D__law_sizes, D__law_deed, D__law_behind, D_law]
def prs : List PrF := [P_Board_idle, P_InvalidDeed___init__, P_InvalidState___init__]
def fa_ : List He.Fa := [.cls (PySem.Str.ofString "Board"), .glo (PySem.Str.ofString "over"), .glo (PySem.Str.ofString "is_sizes"), .mkr (PySem.Str.ofString "Board"), .meth (PySem.Str.ofString "Board") (PySem.Str.ofString "rows"), .meth (PySem.Str.ofString "Board") (PySem.Str.ofString "all_states"), .meth (PySem.Str.ofString "Board") (PySem.Str.ofString "is_deed"), .meth (PySem.Str.ofString "Board") (PySem.Str.ofString "is_state"), .meth (PySem.Str.ofString "Board") (PySem.Str.ofString "need_deed"), .meth (PySem.Str.ofString "Board") (PySem.Str.ofString "need_state"), .meth (PySem.Str.ofString "Board") (PySem.Str.ofString "then"), .meth (PySem.Str.ofString "Board") (PySem.Str.ofString "done"), .glo (PySem.Str.ofString "_law_cells"), .glo (PySem.Str.ofString "_law_draw"), .glo (PySem.Str.ofString "_law_any"), .glo (PySem.Str.ofString "_law_like"), .glo (PySem.Str.ofString "_law_sizes"), .glo (PySem.Str.ofString "_law_deed"), .glo (PySem.Str.ofString "_law_behind"), .glo (PySem.Str.ofString "law"), .free (PySem.Str.ofString "super"), .glo (PySem.Str.ofString "InvalidDeed"), .free (PySem.Str.ofString "super"), .glo (PySem.Str.ofString "InvalidState"), .glo (PySem.Str.ofString "Board"), .noat (PySem.Str.ofString "Board") (PySem.Str.ofString "own_sizes"), .str (PySem.Str.ofString "OPEN") (mkS [46]), .int (PySem.Str.ofString "MOST_CELLS") 5, .str (PySem.Str.ofString "VALUES") (mkS [48, 49, 50]), .free (PySem.Str.ofString "zip"), .free (PySem.Str.ofString "len"), .free (PySem.Str.ofString "isinstance"), .free (PySem.Str.ofString "str"), .free (PySem.Str.ofString "all"), .free (PySem.Str.ofString "int"), .free (PySem.Str.ofString "list"), .free (PySem.Str.ofString "tuple"), .free (PySem.Str.ofString "bool"), .free (PySem.Str.ofString "range"), .free (PySem.Str.ofString "super")]
def tf : List He.Defn := [("law", none)]
def exB (K : PySem.W.Frag) : Bool := [Exi.xcB K "InvalidDeed" "InvalidDeed.__init__" 0 Rw.prog.main.file [("given" : Str)], Exi.xcB K "InvalidState" "InvalidState.__init__" 0 Rw.prog.main.file [("given" : Str)], bmFB K "Board" "done", bmFB K "Board" "then", tblB K []].all id
abbrev Ro : PySem.W.OpenRow := PySem.W.OpenLaw.row Rw
def ob (s : PySem.W.SharedT) : AlP := obsE 6 fa_ fn prs tf exB (HandSHeadRun.getT s)
def names : List PySem.Str := [(PySem.Str.ofString "_wall"), (PySem.Str.ofString "ScrawlError"), (PySem.Str.ofString "InvalidBoard"), (PySem.Str.ofString "InvalidDeed"), (PySem.Str.ofString "InvalidState"), (PySem.Str.ofString "MOST_CELLS"), (PySem.Str.ofString "VALUES"), (PySem.Str.ofString "OPEN"), (PySem.Str.ofString "is_sizes"), (PySem.Str.ofString "over"), (PySem.Str.ofString "Board"), (PySem.Str.ofString "_law_cells"), (PySem.Str.ofString "_law_draw"), (PySem.Str.ofString "_law_any"), (PySem.Str.ofString "_law_like"), (PySem.Str.ofString "_law_sizes"), (PySem.Str.ofString "_law_deed"), (PySem.Str.ofString "_law_behind")]
section
open PySem PySem.W PySem.Calls PyProof.Rows HandSHeadRun
theorem run1 (w : World) (os : OsState) : (endW Ro 12000 w os).map (fun s => looksF Ro.prog (boot_heap w.params) s.abs) = some true := by
  kernel_rfl
theorem run2 (w : World) (os : OsState) : (endW Ro 12000 w os).map (fun s => seenQ (view Ro.prog [21]) names (importedModules Ro.prog.main.body) (fun s => xlAt (view Ro.prog [21]) [] s && recOk Ro.toRowW.records s) s.abs) = some (openGood (view Ro.prog [21]) names) := by
  kernel_rfl
theorem run3 (w : World) (os : OsState) : (endW Ro 12000 w os).map (fun s => He.obsT fa_ fn [] (fragE 6 s)) = some (He.valT fn [] w) := by
  kernel_rfl
theorem run4 (w : World) (os : OsState) : (endW Ro 12000 w os).map (fun s => exP prs tf exB (fragE 6 s) && He.tabsB (HandSHeadRun.getT s) tf (fragE 6 s)) = some true := by
  kernel_rfl
theorem run5 (w : World) (os : OsState) : (endW Ro 12000 w os).map (fun s => prs.map (prV (fragE 6 s))) = some (prs.map PrF.val) := by
  kernel_rfl
theorem run (w : World) : RunEq Ro (view Ro.prog [21]) (hookE 6 fa_ fn prs tf exB) ob 12000 names w := runEq_parts (run1 w) (run2 w) (run3 w) (run4 w) (run5 w)
end
end Hd
open Hd
end Lk10
open PySem PySem.W PySem.Calls PyProof.Rows
namespace Dl
open PySem PySem.Spec PyProof.Rows L2
structure LamC where
  q : Str
  params : Arguments
  dfl : List Int
  body : Expr
  scope : Scope
inductive D where
  | non | bl (b : Bool) | int (i : Int) | str (x : List Nat)
  | tup (xs : List D) | lst (xs : List D)
  | dic (ks vs : List D)
  | ins (c : Str) (ks : List Str) (vs : List D)
  /-- a built-in class, a class of the text -/
  | ty (n : String) | cls (c : Str)
  /-- an exception; a lambda of this frame, its cells; a lambda with what it captured -/
  | exc (c : Str) (ks : List Str) (vs : List D)
  | lamR (l : LamC) (cl : List (Str × Addr)) | lam (l : LamC) (ns : List Str) (vs : List D)
  deriving Inhabited
inductive O where
  | dead
  | lst (xs : List D)
  | ins (c : Str) (ks : List Str) (vs : List D)
  | dic (ks vs : List D)
  | dcr (h : HO) (ks vs : List D)
  deriving Inhabited
inductive W where
  | d (x : D) | loc (n : Nat)
  /-- the law's script -/
  | scr (xs : List Int)
  deriving Inhabited
structure brD (b : Bool) (A B : Prop) : Prop where
  yes : b = true → A
  no : b = false → B
theorem brD_t {A B : Prop} (h : brD true A B) : A := h.yes rfl
theorem brD_f {A B : Prop} (h : brD false A B) : B := h.no rfl
theorem br {b : Bool} {A B : Prop} (h1 : b = true → A) (h2 : b = false → B) : brD b A B := ⟨h1, h2⟩
theorem brT {b : Bool} {A B : Prop} (h : b = true) (h1 : A) : brD b A B := br (fun _ => h1) fun z => by rw [h] at z; cases z
theorem brF {b : Bool} {A B : Prop} (h : b = false) (h1 : B) : brD b A B := br (fun z => by rw [h] at z; cases z) fun _ => h1
def TupAt (K : PySem.W.Frag) (F : Hp) (a : Addr) (xs : List V) : Prop :=
  F a = some (.tup xs) ∨ ∃ (o : Obj) (its : Array Value) (n : Nat), K.lookup a = some o ∧ o.cls = .type "tuple" ∧ o.data = .seq its n ∧ its.size ≤ sizeLine ∧ Vals xs its.toList
theorem TupAt.sq {K : PySem.W.Frag} {F H : Hp} {a : Addr} {xs : List V} (h : TupAt K F a xs) (s : ∀ b o, F b = some o → H b = some o) : SqT K H a xs := h.elim (fun z => .inl (.inl (s _ _ z))) .inr
def exactO (a : Addr) (o : Obj) : HO := .ext fun h => h.get? a = some o
inductive RawE : List DictEntry → List Int → List V → List V → Prop
  | nil : RawE [] [] [] []
  | cons {e : DictEntry} {es : List DictEntry} {hs : List Int} {k v : V} {ks vs : List V} (rk : RelV k e.key) (rv : RelV v e.val) (r : RawE es hs ks vs) : RawE (e :: es) (e.hash :: hs) (k :: ks) (v :: vs)
def rawO (a : Addr) (hs : List Int) (ks us : List V) (o : Obj) : HO := .ext fun h => h.get? a = some o ∧ o.ExactDict ∧ ∃ ar ep, o.data = .dict ar ep ∧ RawE ar.toList hs ks us
mutual
def nkD : D → Option NestedKey
  | .non => some .none
  | .int i => some (.num i)
  | .str x => some (.text (mkS x))
  | .tup xs => (nkL xs).map .tup
  | _ => none
def nkL : List D → Option (List NestedKey)
  | [] => some []
  | d :: ds => match nkD d, nkL ds with
    | some k, some ks => some (k :: ks)
    | _, _ => none
end
def hashD [TheW] (d : D) : Int := match nkD d with
  | some k => k.hash TheW.w
  | none => 0
structure LamF (F : Hp) (l : LamC) (cl : List (Str × Addr)) (f : Addr) (fd : FuncData) : Prop where
  obj : F f = some (exactO f { cls := .type "function", data := .func fd })
  name : fd.name = "<lambda>"
  qual : fd.qualname = l.q
  par : fd.params = l.params
  body : fd.body = .expr l.body
  scope : fd.scope = l.scope
  glob : fd.globals = mainGlobals
  clos : fd.closure = cl
  kwd : fd.kwdefaults = .none
  blt : fd.builtins = builtinsNs
  code : ∃ c, fd.code = .ref c ∧ F c = some (LamX.CodeO c l.q)
  dfl : (l.dfl = [] ∧ fd.defaults = .none) ∨ ∃ t, fd.defaults = .ref t ∧ F t = some (.tup (l.dfl.map V.int))
def CellsAt (F : Hp) (cl : List (Str × Addr)) (ns : List Str) (vs : List V) : Prop :=
  ns.length = vs.length ∧ ∀ (i : Nat) (n : Str) (v : V), ns[i]? = some n → vs[i]? = some v → ∃ (c : Addr) (o : Obj) (u : Value), cl.lookup n = some c ∧ F c = some (exactO c o) ∧ o.data = .cell (some u) ∧ RelV v u
section
variable [TheW]
mutual
def Rep (K : PySem.W.Frag) (F : Hp) : D → V → Prop
  | .non, v => v = .non
  | .bl b, v => v = .bl b
  | .int i, v => v = .int i
  | .str x, v => v = .str (mkS x)
  | .tup xs, v => ∃ a vs, v = .ref a ∧ TupAt K F a vs ∧ RepL K F xs vs
  | .lst xs, v => ∃ a vs, v = .ref a ∧ F a = some (.lst vs) ∧ RepL K F xs vs
  | .dic ks ds, v => ∃ a kus us, v = .ref a ∧ (∃ o, F a = some (rawO a (ks.map hashD) kus us o)) ∧ (a == sysModules) = false ∧ RepL K F ks kus ∧ RepL K F ds us
  | .ins c ks ds, v => ∃ a dx fs, v = .ref a ∧ F a = some (.ins (He.ga K c) dx fs) ∧ fs.map (·.1) = ks ∧ RepL K F ds (fs.map (·.2))
  | .ty n, v => v = .ty n
  | .cls c, v => v = .ref (He.ga K c)
  | .exc c ks ds, v => ∃ a dx fs oe, v = .ref a ∧ F a = some (exactO a oe) ∧ Zc (.ref (He.ga K c)) (some dx) oe ∧ (∃ vs, oe.data = .fields vs) ∧ F dx = some (.xd fs) ∧ fs.map (·.1) = ks ∧ RepL K F ds (fs.map (·.2))
  | .lamR l cl, v => ∃ f fd, v = .ref f ∧ LamF F l (L2.cloFrom cl l.scope.names []) f fd
  | .lam l ns ds, v => ∃ f fd cl vs, v = .ref f ∧ LamF F l cl f fd ∧ CellsAt F cl ns vs ∧ RepL K F ds vs
def RepL (K : PySem.W.Frag) (F : Hp) : List D → List V → Prop
  | [], vs => vs = []
  | d :: ds, vs => ∃ v r, vs = v :: r ∧ Rep K F d v ∧ RepL K F ds r
end
end
def SubH (F H : Hp) : Prop := ∀ b o, F b = some o → H b = some o
theorem SubH.refl (F : Hp) : SubH F F := fun _ _ h => h
theorem SubH.trans {F G H : Hp} (a : SubH F G) (b : SubH G H) : SubH F H := fun c o h => b c o (a c o h)
theorem LamF.sub {F F' : Hp} (s : SubH F F') {l : LamC} {cl : List (Str × Addr)} {f : Addr} {fd : FuncData} (h : LamF F l cl f fd) : LamF F' l cl f fd := by
  obtain ⟨h1, h2, h3, h4, h5, h6, h7, h8, h9, h10, ⟨c, e1, e2⟩, h12⟩ := h
  exact ⟨s _ _ h1, h2, h3, h4, h5, h6, h7, h8, h9, h10, ⟨c, e1, s _ _ e2⟩, h12.imp id fun ⟨t, a, b⟩ => ⟨t, a, s _ _ b⟩⟩
theorem CellsAt.sub {F F' : Hp} (s : SubH F F') {cl : List (Str × Addr)} {ns : List Str} {vs : List V} (h : CellsAt F cl ns vs) : CellsAt F' cl ns vs :=
  ⟨h.1, fun i n v e1 e2 => let ⟨c, o, u, a, b, d, e⟩ := h.2 i n v e1 e2; ⟨c, o, u, a, s _ _ b, d, e⟩⟩
section
variable [TheW]
variable {K : PySem.W.Frag} {F F' : Hp}
theorem SqL.sub {a : Addr} {xs : List V} (s : SubH F F') (h : SqL K F a xs) : SqL K F' a xs := by
  rcases h with (h | ⟨o, h⟩) | h
  · exact .inl (.inl (s _ _ h))
  · exact .inl (.inr ⟨o, s _ _ h⟩)
  · exact .inr h
theorem TupAt.sub {a : Addr} {xs : List V} (s : SubH F F') (h : TupAt K F a xs) : TupAt K F' a xs := h.elim (fun z => .inl (s _ _ z)) .inr
mutual
theorem Rep.sub (s : SubH F F') : ∀ (d : D) (v : V), Rep K F d v → Rep K F' d v
  | .non, _, h => h
  | .bl _, _, h => h
  | .int _, _, h => h
  | .str _, _, h => h
  | .tup xs, _, h => by
    unfold Rep at h ⊢
    obtain ⟨a, vs, e, q, r⟩ := h
    exact ⟨a, vs, e, TupAt.sub s q, RepL.sub s xs vs r⟩
  | .lst xs, _, h => by
    unfold Rep at h ⊢
    obtain ⟨a, vs, e, q, r⟩ := h
    exact ⟨a, vs, e, s _ _ q, RepL.sub s xs vs r⟩
  | .dic ks ds, _, h => by
    unfold Rep at h ⊢
    obtain ⟨a, kus, us, e, ⟨o, q⟩, n, r1, r2⟩ := h
    exact ⟨a, kus, us, e, ⟨o, s _ _ q⟩, n, RepL.sub s ks _ r1, RepL.sub s ds _ r2⟩
  | .ins c ks ds, _, h => by
    unfold Rep at h ⊢
    obtain ⟨a, dx, fs, e, q, k, r⟩ := h
    exact ⟨a, dx, fs, e, s _ _ q, k, RepL.sub s ds _ r⟩
  | .ty _, _, h => h
  | .cls _, _, h => h
  | .exc c ks ds, _, h => by
    unfold Rep at h ⊢
    obtain ⟨a, dx, fs, oe, e, q, z, d, q2, k, r⟩ := h
    exact ⟨a, dx, fs, oe, e, s _ _ q, z, d, s _ _ q2, k, RepL.sub s ds _ r⟩
  | .lamR l cl, _, h => by
    unfold Rep at h ⊢
    obtain ⟨f, fd, e, q⟩ := h
    exact ⟨f, fd, e, q.sub s⟩
  | .lam l ns ds, _, h => by
    unfold Rep at h ⊢
    obtain ⟨f, fd, cl, vs, e, q, c, r⟩ := h
    exact ⟨f, fd, cl, vs, e, q.sub s, c.sub s, RepL.sub s ds _ r⟩
theorem RepL.sub (s : SubH F F') : ∀ (ds : List D) (vs : List V), RepL K F ds vs → RepL K F' ds vs
  | [], _, h => h
  | d :: ds, vs, h => by
    unfold RepL at h ⊢
    obtain ⟨v, r, e, q, t⟩ := h
    exact ⟨v, r, e, Rep.sub s d v q, RepL.sub s ds r t⟩
end
theorem RepL.len : ∀ {ds : List D} {vs : List V}, RepL K F ds vs → ds.length = vs.length
  | [], _, h => by unfold RepL at h; subst h; rfl
  | _ :: ds, _, h => by
    unfold RepL at h
    obtain ⟨v, r, rfl, _, t⟩ := h
    simp [RepL.len t]
theorem RepL.get : ∀ {ds : List D} {vs : List V} {i : Nat} {d : D}, RepL K F ds vs → ds[i]? = some d → ∃ v, vs[i]? = some v ∧ Rep K F d v
  | [], _, i, d, h, e => by simp at e
  | x :: ds, _, 0, d, h, e => by
    unfold RepL at h
    obtain ⟨v, r, rfl, q, t⟩ := h
    simp at e; subst e
    exact ⟨v, rfl, q⟩
  | x :: ds, _, i + 1, d, h, e => by
    unfold RepL at h
    obtain ⟨v, r, rfl, q, t⟩ := h
    obtain ⟨u, e1, e2⟩ := RepL.get (i := i) (d := d) t (by simpa using e)
    exact ⟨u, by simpa using e1, e2⟩
theorem RepL.getV : ∀ {ds : List D} {vs : List V} {i : Nat} {v : V}, RepL K F ds vs → vs[i]? = some v → ∃ d, ds[i]? = some d ∧ Rep K F d v
  | [], _, i, v, h, e => by unfold RepL at h; subst h; simp at e
  | x :: ds, _, 0, d, h, e => by
    unfold RepL at h
    obtain ⟨v, r, rfl, q, t⟩ := h
    simp at e; subst e
    exact ⟨x, rfl, q⟩
  | x :: ds, _, i + 1, d, h, e => by
    unfold RepL at h
    obtain ⟨v, r, rfl, q, t⟩ := h
    obtain ⟨u, e1, e2⟩ := RepL.getV (i := i) (v := d) t (by simpa using e)
    exact ⟨u, by simpa using e1, e2⟩
theorem RepL.app : ∀ {ds es : List D} {vs us : List V}, RepL K F ds vs → RepL K F es us → RepL K F (ds ++ es) (vs ++ us)
  | [], _, _, _, h, g => by unfold RepL at h; subst h; exact g
  | x :: ds, es, _, us, h, g => by
    unfold RepL at h
    obtain ⟨v, r, rfl, q, t⟩ := h
    show RepL K F (x :: (ds ++ es)) (v :: (r ++ us))
    unfold RepL
    exact ⟨v, _, rfl, q, RepL.app t g⟩
theorem RepL.one {d : D} {v : V} (h : Rep K F d v) : RepL K F [d] [v] := by
  unfold RepL
  exact ⟨v, [], rfl, h, by unfold RepL; rfl⟩
theorem RepL.nil : RepL K F [] [] := by unfold RepL; rfl
theorem RepL.cons {d : D} {v : V} {ds : List D} {vs : List V} (h : Rep K F d v) (t : RepL K F ds vs) : RepL K F (d :: ds) (v :: vs) := by
  unfold RepL
  exact ⟨v, vs, rfl, h, t⟩
theorem RepL.take : ∀ {ds : List D} {vs : List V} (n : Nat), RepL K F ds vs → RepL K F (ds.take n) (vs.take n)
  | [], _, n, h => by unfold RepL at h; subst h; simp; exact RepL.nil
  | x :: ds, _, 0, h => by simp; exact RepL.nil
  | x :: ds, _, n + 1, h => by
    unfold RepL at h
    obtain ⟨v, r, rfl, q, t⟩ := h
    exact RepL.cons q (RepL.take n t)
theorem RepL.drop : ∀ {ds : List D} {vs : List V} (n : Nat), RepL K F ds vs → RepL K F (ds.drop n) (vs.drop n)
  | [], _, n, h => by unfold RepL at h; subst h; simp; exact RepL.nil
  | x :: ds, _, 0, h => h
  | x :: ds, _, n + 1, h => by
    unfold RepL at h
    obtain ⟨v, r, rfl, q, t⟩ := h
    exact RepL.drop n t
end
def lamQ (p : He.Defn) : Str := p.1 ++ ".<locals>.<lambda>"
def TabF (F H : Hp) (P : Addr) (q : Str) : Prop := ∃ ps : Array Value, F P = none ∧ H P = some (.tbl ps) ∧ TriplesOk ps.toList ∧ ∀ (pos : Pos) (cv : Value), codeAmong pos ps.toList = some cv → ∃ c, cv = .ref c ∧ F c = some (LamX.CodeO c q)
def TabsK (K : PySem.W.Frag) (F H : Hp) : Prop := ∀ p ∈ lamDefs, PySem.W.codeHdIn K (He.cT K p).1 (He.cT K p).2 = true → TabF F H (He.cT K p).2 (lamQ p)
theorem TabF.ext {F F' H H' : Hp} {P : Addr} {q : Str} (t : TabF F H P q) (s : SubH F F') (f : F P = none → F' P = none) (e : ∀ ps, H P = some (.tbl ps) → H' P = some (.tbl ps)) : TabF F' H' P q := by
  obtain ⟨ps, h0, h1, h2, h3⟩ := t
  exact ⟨ps, f h0, e _ h1, h2, fun pos cv hc => let ⟨c, e1, e2⟩ := h3 pos cv hc; ⟨c, e1, s _ _ e2⟩⟩
theorem TabsK.ext {K : PySem.W.Frag} {F F' H H' : Hp} (t : TabsK K F H) (s : SubH F F') (f : ∀ b ps, F b = none → H b = some (.tbl ps) → F' b = none ∧ H' b = some (.tbl ps)) : TabsK K F' H' := fun p hp hc => by
  have z := t p hp hc
  obtain ⟨ps, h0, h1, _⟩ := id z
  obtain ⟨f0, f1⟩ := f _ _ h0 h1
  exact z.ext s (fun _ => f0) fun qs e => by rw [h1] at e; cases e; exact f1
def OOk [TheW] (K : PySem.W.Frag) (F H : Hp) (a : Addr) : O → Prop
  | .dead => True
  | .lst xs => F a = none ∧ ∃ vs, H a = some (.lst vs) ∧ RepL K F xs vs
  | .ins c ks ds => F a = none ∧ ∃ dx fs, H a = some (.ins (He.ga K c) dx fs) ∧ fs.map (·.1) = ks ∧ RepL K F ds (fs.map (·.2))
  | .dic ks ds => F a = none ∧ ∃ kus us, (∃ o, H a = some (rawO a (ks.map hashD) kus us o)) ∧ (a == sysModules) = false ∧ RepL K F ks kus ∧ RepL K F ds us
  | .dcr r ks ds => F a = none ∧ ∃ kus us, (∃ o, r = rawO a (ks.map hashD) kus us o) ∧ H a = some r ∧ (a == sysModules) = false ∧ RepL K F ks kus ∧ RepL K F ds us
structure StOk [TheW] (K : PySem.W.Frag) (F : Hp) (ρ : List Addr) (μ : List O) (H : Hp) : Prop where
  sub : SubH F H
  len : ρ.length = μ.length
  nd : ρ.Nodup
  dom : ∀ a ∈ ρ, H a ≠ none
  obj : ∀ (i : Nat) a o, ρ[i]? = some a → μ[i]? = some o → OOk K F H a o
  tabs : TabsK K F H
  notab : ∀ a ∈ ρ, ∀ ps, H a ≠ some (.tbl ps)
structure Post (F : Hp) (ρ : List Addr) (H : Hp) (F' : Hp) (ρ' : List Addr) (H' : Hp) : Prop where
  le : SubH F F'
  pre : ∃ t, ρ' = ρ ++ t
  new : ∀ b, F' b ≠ none → F b ≠ none ∨ H b = none ∨ b ∈ ρ
  keepT : ∀ b o, H b = some o → b ∉ ρ → H' b = some o ∨ ∃ ps qs, o = .tbl ps ∧ H' b = some (.tbl qs)
  fresh : ∀ b, b ∈ ρ' → b ∉ ρ → H b = none
section
variable [TheW]
variable {K : PySem.W.Frag} {F F1 F2 : Hp} {ρ ρ1 ρ2 : List Addr} {H H1 H2 : Hp} {μ : List O}
theorem Post.refl (F : Hp) (ρ : List Addr) (H : Hp) : Post F ρ H F ρ H := ⟨SubH.refl F, ⟨[], by simp⟩, fun _ h => .inl h, fun _ _ h _ => .inl h, fun b h n => absurd h n⟩
theorem Post.keep (a : Post F ρ H F1 ρ1 H1) (b : Addr) (o : HO) (h : H b = some o) (n : b ∉ ρ) (nt : ∀ ps, o ≠ .tbl ps) : H1 b = some o :=
  (a.keepT b o h n).elim id fun ⟨ps, _, e, _⟩ => absurd e (nt ps)
theorem Post.dom (a : Post F ρ H F1 ρ1 H1) {b : Addr} {o : HO} (h : H b = some o) (n : b ∉ ρ) : H1 b ≠ none := by
  rcases a.keepT b o h n with e | ⟨ps, qs, _, e⟩
  · rw [e]; simp
  · rw [e]; simp
theorem Post.mem (a : Post F ρ H F1 ρ1 H1) {b : Addr} (h : b ∈ ρ) : b ∈ ρ1 := by
  obtain ⟨t, e⟩ := a.pre
  rw [e]
  exact List.mem_append_left _ h
theorem Post.back (a : Post F ρ H F1 ρ1 H1) {b : Addr} (h : H1 b = none) (n : b ∉ ρ) : H b = none := by
  cases q : H b with
  | none => rfl
  | some o => exact absurd h (a.dom q n)
theorem Post.trans (a : Post F ρ H F1 ρ1 H1) (b : Post F1 ρ1 H1 F2 ρ2 H2) (d : ∀ c ∈ ρ1, H1 c ≠ none) : Post F ρ H F2 ρ2 H2 := by
  refine ⟨a.le.trans b.le, ?_, fun c h => ?_, fun c o h n => ?_, fun c h n => ?_⟩
  · obtain ⟨t, e⟩ := a.pre
    obtain ⟨u, e'⟩ := b.pre
    exact ⟨t ++ u, by rw [e', e, List.append_assoc]⟩
  · by_cases hm : c ∈ ρ
    · exact .inr (.inr hm)
    · rcases b.new c h with h | h | h
      · exact a.new c h
      · exact .inr (.inl (a.back h hm))
      · exact .inr (.inl (a.fresh c h hm))
  · have nm : c ∉ ρ1 := fun hm => by rw [a.fresh c hm n] at h; cases h
    rcases a.keepT c o h n with e | ⟨ps, qs, e1, e2⟩
    · exact b.keepT c o e nm
    · rcases b.keepT c _ e2 nm with e | ⟨ps', qs', e3, e4⟩
      · exact .inr ⟨ps, qs, e1, e⟩
      · exact .inr ⟨ps, qs', e1, e4⟩
  · by_cases hm : c ∈ ρ1
    · exact a.fresh c hm n
    · exact a.back (b.fresh c h hm) n
theorem Post.get (a : Post F ρ H F1 ρ1 H1) {i : Nat} {x : Addr} (h : ρ[i]? = some x) : ρ1[i]? = some x := by
  obtain ⟨t, e⟩ := a.pre
  obtain ⟨hi, e2⟩ := List.getElem?_eq_some_iff.mp h
  rw [e, List.getElem?_append_left hi, h]
theorem Post.data {p : Addr} {o : HO} (sub : SubH F H) (hp : H p = none) : Post F ρ H (upd F p o) ρ (upd H p o) := by
  have hf : F p = none := by
    cases q : F p with
    | none => rfl
    | some u => rw [sub p u q] at hp; cases hp
  refine ⟨fun b u h => ?_, ⟨[], by simp⟩, fun b h => ?_, fun b u h _ => ?_, fun b h n => absurd h n⟩
  · rw [upd_ne (ne_of_none h hf)]; exact h
  · by_cases e : b = p
    · subst e; exact .inr (.inl hp)
    · rw [upd_ne e] at h; exact .inl h
  · exact .inl (by rw [upd_ne (ne_of_none h hp)]; exact h)
theorem SubH.upd {p : Addr} {o : HO} (sub : SubH F H) : SubH (L2.upd F p o) (L2.upd H p o) := fun b u h => by
  by_cases e : b = p
  · subst e; rw [upd_same] at h ⊢; exact h
  · rw [upd_ne e] at h ⊢; exact sub b u h
theorem OOk.mono {K : PySem.W.Frag} {a : Addr} {o : O} (h : OOk K F H a o) (s : SubH F F1) (hf : F a = none → F1 a = none) (hh : ∀ u, H a = some u → H1 a = some u) : OOk K F1 H1 a o := by
  cases o with
  | dead => trivial
  | lst xs =>
    obtain ⟨e, vs, q, r⟩ := h
    exact ⟨hf e, vs, hh _ q, RepL.sub s _ _ r⟩
  | ins c ks ds =>
    obtain ⟨e, dx, fs, q, k, r⟩ := h
    exact ⟨hf e, dx, fs, hh _ q, k, RepL.sub s _ _ r⟩
  | dic ks ds =>
    obtain ⟨e, kus, us, ⟨o, q⟩, n, r1, r2⟩ := h
    exact ⟨hf e, kus, us, ⟨o, hh _ q⟩, n, RepL.sub s _ _ r1, RepL.sub s _ _ r2⟩
  | dcr r ks ds =>
    obtain ⟨e, kus, us, ho, q, n, r1, r2⟩ := h
    exact ⟨hf e, kus, us, ho, hh _ q, n, RepL.sub s _ _ r1, RepL.sub s _ _ r2⟩
theorem StOk.data {p : Addr} {o : HO} (h : StOk K F ρ μ H) (hp : H p = none) : StOk K (L2.upd F p o) ρ μ (L2.upd H p o) := by
  have hf : F p = none := by
    cases q : F p with
    | none => rfl
    | some u => rw [h.sub p u q] at hp; cases hp
  have np : ∀ a ∈ ρ, a ≠ p := fun a ha e => h.dom a ha (e ▸ hp)
  refine ⟨h.sub.upd, h.len, h.nd, fun a ha => by rw [upd_ne (np a ha)]; exact h.dom a ha, fun i a o' e1 e2 => ?_, h.tabs.ext (Post.data h.sub hp (ρ := ρ)).le fun b ps f e => ?_, fun a ha ps => by rw [upd_ne (np a ha)]; exact h.notab a ha ps⟩
  · have na := np a (List.mem_of_getElem? e1)
    exact (h.obj i a o' e1 e2).mono (Post.data h.sub hp (ρ := ρ)).le (fun e => by rw [upd_ne na]; exact e) fun u e => by rw [upd_ne na]; exact e
  · have nb : b ≠ p := ne_of_none e hp
    rw [upd_ne nb, upd_ne nb]; exact ⟨f, e⟩
end
section
variable [TheW]
def RepW (K : PySem.W.Frag) (F : Hp) (ρ : List Addr) : W → V → Prop
  | .d x, v => Rep K F x v
  | .loc n, v => ∃ a, ρ[n]? = some a ∧ v = .ref a
  | .scr xs, v => ∃ a, v = .ref a ∧ SqL K F a (xs.map V.int)
def RepWL (K : PySem.W.Frag) (F : Hp) (ρ : List Addr) : List W → List V → Prop
  | [], vs => vs = []
  | w :: ws, vs => ∃ v r, vs = v :: r ∧ RepW K F ρ w v ∧ RepWL K F ρ ws r
section
variable {K : PySem.W.Frag} {F F1 : Hp} {ρ ρ1 : List Addr} {H H1 : Hp}
theorem RepW.post {w : W} {v : V} (h : RepW K F ρ w v) (p : Post F ρ H F1 ρ1 H1) : RepW K F1 ρ1 w v := by
  cases w with
  | d x => exact Rep.sub p.le x v h
  | loc n =>
    obtain ⟨a, e, q⟩ := h
    exact ⟨a, p.get e, q⟩
  | scr xs =>
    obtain ⟨a, e, q⟩ := h
    exact ⟨a, e, SqL.sub p.le q⟩
theorem RepWL.post : ∀ {ws : List W} {vs : List V}, RepWL K F ρ ws vs → Post F ρ H F1 ρ1 H1 → RepWL K F1 ρ1 ws vs
  | [], _, h, _ => h
  | w :: ws, _, h, p => by
    obtain ⟨v, r, e, q, t⟩ := h
    exact ⟨v, r, e, q.post p, t.post p⟩
theorem RepWL.len : ∀ {ws : List W} {vs : List V}, RepWL K F ρ ws vs → ws.length = vs.length
  | [], _, h => by cases h; rfl
  | w :: ws, _, h => by
    obtain ⟨v, r, rfl, q, t⟩ := h
    simp [t.len]
theorem RepWL.ofD : ∀ {ds : List D} {vs : List V}, RepWL K F ρ (ds.map W.d) vs → RepL K F ds vs
  | [], _, h => by cases h; exact RepL.nil
  | d :: ds, _, h => by
    obtain ⟨v, r, rfl, q, t⟩ := h
    exact RepL.cons q t.ofD
theorem RepWL.toD : ∀ {ds : List D} {vs : List V}, RepL K F ds vs → RepWL K F ρ (ds.map W.d) vs
  | [], _, h => by unfold RepL at h; exact h
  | d :: ds, _, h => by
    unfold RepL at h
    obtain ⟨v, r, rfl, q, t⟩ := h
    exact ⟨v, r, rfl, q, RepWL.toD t⟩
end
structure Dst where
  δ : List (Option W)
  μ : List O
structure Ex where
  c : Str
  ks : List Str
  vs : List D
abbrev DQ := W → Dst → Prop
abbrev DX := Ex → Dst → Prop
abbrev DE := Dst → DQ → DX → Prop
abbrev DT := Dst → (Bool → Dst → Prop) → DX → Prop
abbrev DA := Dst → (List W → Dst → Prop) → DX → Prop
structure DEnds where
  nx : Dst → Prop
  rt : W → List O → Prop
  ex : DX
  bk : Dst → Prop := fun _ => False
  ct : Dst → Prop := fun _ => False
abbrev DS := DEnds → Dst → Prop
structure En where
  F : Hp
  ρ : List Addr
  H : Hp
def ExRep (K : PySem.W.Frag) (F : Hp) (x : Ex) (cls : Value) (d : Option Addr) (H : Hp) : Prop :=
  cls = .ref (He.ga K x.c) ∧ ∃ dx fs, d = some dx ∧ F dx = some (.xd fs) ∧ fs.map (·.1) = x.ks ∧ RepL K F x.vs (fs.map (·.2))
structure Rl (K : PySem.W.Frag) (n : En) (F : Hp) (ρ : List Addr) (st : Dst) (σ : L2.St) (H : Hp) : Prop where
  ok : StOk K F ρ st.μ H
  po : Post n.F n.ρ n.H F ρ H
  len : st.δ.length = σ.length
  slots : ∀ (i : Nat) w, st.δ[i]? = some (some w) → ∃ v, σ[i]? = some (some v) ∧ RepW K F ρ w v
def TkD (X : Cx) (n : En) (E : DX) : Prop := Takes X (fun cls d σ H => ∃ st F ρ x, Rl X.K n F ρ st σ H ∧ ExRep X.K F x cls d H ∧ E x st)
def EPD (X : Cx) (n : En) (pins : List (Addr × Obj)) (σ : L2.St) (F : Hp) (ρ : List Addr) (H : Hp) (Q : DQ) (u : Value) (s' : Shared) : Prop :=
  ∃ v w st' H' F' ρ', Inv X pins σ H' s' ∧ RelV v u ∧ Post F ρ H F' ρ' H' ∧ Rl X.K n F' ρ' st' σ H' ∧ RepW X.K F' ρ' w v ∧ Q w st'
def TPD (X : Cx) (n : En) (pins : List (Addr × Obj)) (σ : L2.St) (F : Hp) (ρ : List Addr) (H : Hp) (Q : Bool → Dst → Prop) (b : Bool) (s' : Shared) : Prop :=
  ∃ st' H' F' ρ', Inv X pins σ H' s' ∧ Post F ρ H F' ρ' H' ∧ Rl X.K n F' ρ' st' σ H' ∧ Q b st'
def APD (X : Cx) (n : En) (pins : List (Addr × Obj)) (σ : L2.St) (F : Hp) (ρ : List Addr) (H : Hp) (Q : List W → Dst → Prop) (us : List Value) (s' : Shared) : Prop :=
  ∃ vs ws st' H' F' ρ', Inv X pins σ H' s' ∧ Vals vs us ∧ Post F ρ H F' ρ' H' ∧ Rl X.K n F' ρ' st' σ H' ∧ RepWL X.K F' ρ' ws vs ∧ Q ws st'
def SPD (X : Cx) (n : En) (pins : List (Addr × Obj)) (F : Hp) (ρ : List Addr) (H : Hp) (D : DEnds) (f : Flow) (s' : Shared) : Prop :=
  match f with
  | .next => ∃ σ' H' F' ρ' st', Inv X pins σ' H' s' ∧ Post F ρ H F' ρ' H' ∧ Rl X.K n F' ρ' st' σ' H' ∧ D.nx st'
  | .brk => ∃ σ' H' F' ρ' st', Inv X pins σ' H' s' ∧ Post F ρ H F' ρ' H' ∧ Rl X.K n F' ρ' st' σ' H' ∧ D.bk st'
  | .cont => ∃ σ' H' F' ρ' st', Inv X pins σ' H' s' ∧ Post F ρ H F' ρ' H' ∧ Rl X.K n F' ρ' st' σ' H' ∧ D.ct st'
  | .ret u => ∃ v w σ' H' F' ρ' μ, Inv X pins σ' H' s' ∧ RelV v u ∧ Post F ρ H F' ρ' H' ∧ Post n.F n.ρ n.H F' ρ' H' ∧ StOk X.K F' ρ' μ H' ∧ RepW X.K F' ρ' w v ∧ D.rt w μ
structure PD (X : Cx) (n : En) (e : Expr) (w : DE) : Prop where
  run : ∀ (pins : List (Addr × Obj)) (s : Shared) (σ : L2.St) (H F : Hp) (ρ : List Addr) (st : Dst) (Q : DQ) (E : DX), Inv X pins σ H s → Rl X.K n F ρ st σ H → TkD X n E → w st Q E →
    wpAny (model X.prog X.w) X.A (eval e X.env) (EPD X n pins σ F ρ H Q) X.xe s
structure PTD (X : Cx) (n : En) (e : Expr) (w : DT) : Prop where
  run : ∀ (pins : List (Addr × Obj)) (s : Shared) (σ : L2.St) (H F : Hp) (ρ : List Addr) (st : Dst) (Q : Bool → Dst → Prop) (E : DX), Inv X pins σ H s → Rl X.K n F ρ st σ H → TkD X n E → w st Q E →
    wpAny (model X.prog X.w) X.A (isTrue e X.env (eval e X.env)) (TPD X n pins σ F ρ H Q) X.xe s
structure PWD (X : Cx) (n : En) (e : Expr) (w : DT) : Prop where
  run : ∀ (whole : Sem Value) (pins : List (Addr × Obj)) (s : Shared) (σ : L2.St) (H F : Hp) (ρ : List Addr) (st : Dst) (Q : Bool → Dst → Prop) (E : DX), Inv X pins σ H s → Rl X.K n F ρ st σ H → TkD X n E → w st Q E →
    wpAny (model X.prog X.w) X.A (isTrue e X.env whole) (TPD X n pins σ F ρ H Q) X.xe s
theorem PWD.pt {X : Cx} {n : En} {e : Expr} {w : DT} (h : PWD X n e w) : PTD X n e w := ⟨h.run _⟩
structure PAD (X : Cx) (n : En) (es : List Expr) (w : DA) : Prop where
  run : ∀ (pos : Pos) (pins : List (Addr × Obj)) (s : Shared) (σ : L2.St) (H F : Hp) (ρ : List Addr) (st : Dst) (Q : List W → Dst → Prop) (E : DX), Inv X pins σ H s → Rl X.K n F ρ st σ H → TkD X n E → w st Q E →
    wpAny (model X.prog X.w) X.A (spliced (backTo pos (starEach es X.env))) (APD X n pins σ F ρ H Q) X.xe s
structure PSD (X : Cx) (n : En) (c : Stmt) (w : DS) : Prop where
  run : ∀ (pins : List (Addr × Obj)) (s : Shared) (σ : L2.St) (H F : Hp) (ρ : List Addr) (st : Dst) (D : DEnds), Inv X pins σ H s → Rl X.K n F ρ st σ H → TkD X n D.ex → w D st →
    wpAny (model X.prog X.w) X.A (exec c X.env) (SPD X n pins F ρ H D) X.xe s
structure PSSD (X : Cx) (n : En) (c : List Stmt) (w : DS) : Prop where
  run : ∀ (pins : List (Addr × Obj)) (s : Shared) (σ : L2.St) (H F : Hp) (ρ : List Addr) (st : Dst) (D : DEnds), Inv X pins σ H s → Rl X.K n F ρ st σ H → TkD X n D.ex → w D st →
    wpAny (model X.prog X.w) X.A (execs c X.env) (SPD X n pins F ρ H D) X.xe s
section
variable {K : PySem.W.Frag} {n : En} {F F1 F2 : Hp} {ρ ρ1 ρ2 : List Addr} {st st1 : Dst} {σ : L2.St} {H H1 H2 : Hp}
theorem Rl.step (R : Rl K n F ρ st σ H) (p : Post F ρ H F1 ρ1 H1) {μ : List O} (ok : StOk K F1 ρ1 μ H1) : Rl K n F1 ρ1 { st with μ := μ } σ H1 :=
  ⟨ok, R.po.trans p R.ok.dom, R.len, fun i w e => let ⟨v, a, b⟩ := R.slots i w e; ⟨v, a, b.post p⟩⟩
theorem Rl.data (R : Rl K n F ρ st σ H) {p : Addr} {o : HO} (hp : H p = none) : Rl K n (L2.upd F p o) ρ st σ (L2.upd H p o) :=
  R.step (Post.data R.ok.sub hp) (R.ok.data hp)
end
def tE (X : Cx) (n : En) (w : DE) : TE := fun σ H Q => ∃ F ρ st DQ E, Rl X.K n F ρ st σ H ∧ TkD X n E ∧ w st DQ E ∧
  ∀ v w' st' H' F' ρ', Post F ρ H F' ρ' H' → Rl X.K n F' ρ' st' σ H' → RepW X.K F' ρ' w' v → DQ w' st' → Q v H'
def tT (X : Cx) (n : En) (w : DT) : TT := fun σ H Q => ∃ F ρ st DQ E, Rl X.K n F ρ st σ H ∧ TkD X n E ∧ w st DQ E ∧
  ∀ b st' H' F' ρ', Post F ρ H F' ρ' H' → Rl X.K n F' ρ' st' σ H' → DQ b st' → Q b H'
def tA (X : Cx) (n : En) (w : DA) : TA := fun σ H Q => ∃ F ρ st DQ E, Rl X.K n F ρ st σ H ∧ TkD X n E ∧ w st DQ E ∧
  ∀ vs ws st' H' F' ρ', Post F ρ H F' ρ' H' → Rl X.K n F' ρ' st' σ H' → RepWL X.K F' ρ' ws vs → DQ ws st' → Q vs H'
def tS (X : Cx) (n : En) (w : DS) : TS := fun D σ H => ∃ F ρ st DD, Rl X.K n F ρ st σ H ∧ TkD X n DD.ex ∧ w DD st ∧
  (∀ σ' H' F' ρ' st', Post F ρ H F' ρ' H' → Rl X.K n F' ρ' st' σ' H' → DD.nx st' → D.nx σ' H') ∧ (∀ v w' H' F' ρ' μ, Post F ρ H F' ρ' H' → Post n.F n.ρ n.H F' ρ' H' → StOk X.K F' ρ' μ H' → RepW X.K F' ρ' w' v → DD.rt w' μ → D.rt v H') ∧
  (∀ σ' H' F' ρ' st', Post F ρ H F' ρ' H' → Rl X.K n F' ρ' st' σ' H' → DD.bk st' → D.bk σ' H') ∧ (∀ σ' H' F' ρ' st', Post F ρ H F' ρ' H' → Rl X.K n F' ρ' st' σ' H' → DD.ct st' → D.ct σ' H')
section
variable {X : Cx} {n : En}
theorem PD.pe {e : Expr} {w : DE} (h : PD X n e w) : PE X e (tE X n w) := by
  refine ⟨fun pins s σ H Q I ⟨F, ρ, st, DQ, E, R, tk, hw, k⟩ => ?_⟩
  refine thn (h.run pins s σ H F ρ st DQ E I R tk hw) fun u s1 ⟨v, w', st', H', F', ρ', I', r, a, b, c, d⟩ => ?_
  exact ⟨v, H', I', r, k v w' st' H' F' ρ' a b c d⟩
theorem PTD.pt {e : Expr} {w : DT} (h : PTD X n e w) : PT X e (tT X n w) := by
  refine ⟨fun pins s σ H Q I ⟨F, ρ, st, DQ, E, R, tk, hw, k⟩ => ?_⟩
  refine thn (h.run pins s σ H F ρ st DQ E I R tk hw) fun u s1 ⟨st', H', F', ρ', I', a, b, d⟩ => ?_
  exact ⟨H', I', k u st' H' F' ρ' a b d⟩
theorem PWD.pw {e : Expr} {w : DT} (h : PWD X n e w) : PW X e (tT X n w) := by
  refine ⟨fun wh pins s σ H Q I ⟨F, ρ, st, DQ, E, R, tk, hw, k⟩ => ?_⟩
  refine thn (h.run wh pins s σ H F ρ st DQ E I R tk hw) fun u s1 ⟨st', H', F', ρ', I', a, b, d⟩ => ?_
  exact ⟨H', I', k u st' H' F' ρ' a b d⟩
theorem PAD.pa {es : List Expr} {w : DA} (h : PAD X n es w) : PA X es (tA X n w) := by
  refine ⟨fun pos pins s σ H Q I ⟨F, ρ, st, DQ, E, R, tk, hw, k⟩ => ?_⟩
  refine thn (h.run pos pins s σ H F ρ st DQ E I R tk hw) fun u s1 ⟨v, w', st', H', F', ρ', I', r, a, b, c, d⟩ => ?_
  exact ⟨v, H', I', r, k v w' st' H' F' ρ' a b c d⟩
theorem SPD.sp {pins : List (Addr × Obj)} {F : Hp} {ρ : List Addr} {H : Hp} {DD : DEnds} {D : Ends} {f : Flow} {s' : Shared} (h : SPD X n pins F ρ H DD f s')
  (k1 : ∀ σ' H' F' ρ' st', Post F ρ H F' ρ' H' → Rl X.K n F' ρ' st' σ' H' → DD.nx st' → D.nx σ' H') (k2 : ∀ v w' H' F' ρ' μ, Post F ρ H F' ρ' H' → Post n.F n.ρ n.H F' ρ' H' → StOk X.K F' ρ' μ H' → RepW X.K F' ρ' w' v → DD.rt w' μ → D.rt v H')
  (k3 : ∀ σ' H' F' ρ' st', Post F ρ H F' ρ' H' → Rl X.K n F' ρ' st' σ' H' → DD.bk st' → D.bk σ' H') (k4 : ∀ σ' H' F' ρ' st', Post F ρ H F' ρ' H' → Rl X.K n F' ρ' st' σ' H' → DD.ct st' → D.ct σ' H') : SP X pins D f s' := by
  cases f with
  | next => obtain ⟨σ', H', F', ρ', st', I, p, R, q⟩ := h; exact ⟨σ', H', I, k1 _ _ _ _ _ p R q⟩
  | brk => obtain ⟨σ', H', F', ρ', st', I, p, R, q⟩ := h; exact ⟨σ', H', I, k3 _ _ _ _ _ p R q⟩
  | cont => obtain ⟨σ', H', F', ρ', st', I, p, R, q⟩ := h; exact ⟨σ', H', I, k4 _ _ _ _ _ p R q⟩
  | ret u => obtain ⟨v, w', σ', H', F', ρ', μ, I, r, p, p0, ok, rw, q⟩ := h; exact ⟨v, σ', H', I, r, k2 _ _ _ _ _ _ p p0 ok rw q⟩
theorem PSSD.pss {c : List Stmt} {w : DS} (h : PSSD X n c w) : PSs X c (tS X n w) := by
  refine ⟨fun pins s σ H D I ⟨F, ρ, st, DD, R, tk, hw, k1, k2, k3, k4⟩ => ?_⟩
  exact thn (h.run pins s σ H F ρ st DD I R tk hw) fun f s1 q => q.sp k1 k2 k3 k4
abbrev qE (X : Cx) (n : En) (σ : L2.St) (F : Hp) (ρ : List Addr) (H : Hp) (Q : DQ) : VK := fun v H' => ∃ w' st' F' ρ', Post F ρ H F' ρ' H' ∧ Rl X.K n F' ρ' st' σ H' ∧ RepW X.K F' ρ' w' v ∧ Q w' st'
abbrev qT (X : Cx) (n : En) (σ : L2.St) (F : Hp) (ρ : List Addr) (H : Hp) (Q : Bool → Dst → Prop) : Bool → Hp → Prop := fun b H' => ∃ st' F' ρ', Post F ρ H F' ρ' H' ∧ Rl X.K n F' ρ' st' σ H' ∧ Q b st'
abbrev qA (X : Cx) (n : En) (σ : L2.St) (F : Hp) (ρ : List Addr) (H : Hp) (Q : List W → Dst → Prop) : List V → Hp → Prop := fun vs H' => ∃ ws st' F' ρ', Post F ρ H F' ρ' H' ∧ Rl X.K n F' ρ' st' σ H' ∧ RepWL X.K F' ρ' ws vs ∧ Q ws st'
abbrev qN (X : Cx) (n : En) (F : Hp) (ρ : List Addr) (H : Hp) (Q : Dst → Prop) : L2.St → Hp → Prop := fun σ' H' => ∃ F' ρ' st', Post F ρ H F' ρ' H' ∧ Rl X.K n F' ρ' st' σ' H' ∧ Q st'
abbrev qD (X : Cx) (n : En) (F : Hp) (ρ : List Addr) (H : Hp) (D : DEnds) : Ends where
  nx := qN X n F ρ H D.nx
  rt := fun v H' => ∃ w' F' ρ' μ, Post F ρ H F' ρ' H' ∧ Post n.F n.ρ n.H F' ρ' H' ∧ StOk X.K F' ρ' μ H' ∧ RepW X.K F' ρ' w' v ∧ D.rt w' μ
  bk := qN X n F ρ H D.bk
  ct := qN X n F ρ H D.ct
theorem pd_of {e : Expr} {t : TE} {w : DE} (h : PE X e t)
    (sim : ∀ (σ : L2.St) (H F : Hp) (ρ : List Addr) (st : Dst) (Q : DQ) (E : DX), Rl X.K n F ρ st σ H → TkD X n E → w st Q E → t σ H (qE X n σ F ρ H Q)) : PD X n e w := by
  refine ⟨fun pins s σ H F ρ st Q E I R tk hw => ?_⟩
  refine thn (h.run pins s σ H _ I (sim σ H F ρ st Q E R tk hw)) fun u s1 ⟨v, H', I', r, w', st', F', ρ', a, b, c, d⟩ => ?_
  exact ⟨v, w', st', H', F', ρ', I', r, a, b, c, d⟩
theorem ptd_of {e : Expr} {t : TT} {w : DT} (h : PT X e t)
    (sim : ∀ (σ : L2.St) (H F : Hp) (ρ : List Addr) (st : Dst) (Q : Bool → Dst → Prop) (E : DX), Rl X.K n F ρ st σ H → TkD X n E → w st Q E → t σ H (qT X n σ F ρ H Q)) : PTD X n e w := by
  refine ⟨fun pins s σ H F ρ st Q E I R tk hw => ?_⟩
  refine thn (h.run pins s σ H _ I (sim σ H F ρ st Q E R tk hw)) fun u s1 ⟨H', I', st', F', ρ', a, b, d⟩ => ?_
  exact ⟨st', H', F', ρ', I', a, b, d⟩
theorem pwd_of {e : Expr} {t : TT} {w : DT} (h : PW X e t)
    (sim : ∀ (σ : L2.St) (H F : Hp) (ρ : List Addr) (st : Dst) (Q : Bool → Dst → Prop) (E : DX), Rl X.K n F ρ st σ H → TkD X n E → w st Q E → t σ H (qT X n σ F ρ H Q)) : PWD X n e w := by
  refine ⟨fun wh pins s σ H F ρ st Q E I R tk hw => ?_⟩
  refine thn (h.run wh pins s σ H _ I (sim σ H F ρ st Q E R tk hw)) fun u s1 ⟨H', I', st', F', ρ', a, b, d⟩ => ?_
  exact ⟨st', H', F', ρ', I', a, b, d⟩
theorem pad_of {es : List Expr} {t : TA} {w : DA} (h : PA X es t)
    (sim : ∀ (σ : L2.St) (H F : Hp) (ρ : List Addr) (st : Dst) (Q : List W → Dst → Prop) (E : DX), Rl X.K n F ρ st σ H → TkD X n E → w st Q E → t σ H (qA X n σ F ρ H Q)) : PAD X n es w := by
  refine ⟨fun pos pins s σ H F ρ st Q E I R tk hw => ?_⟩
  refine thn (h.run pos pins s σ H _ I (sim σ H F ρ st Q E R tk hw)) fun u s1 ⟨v, H', I', r, w', st', F', ρ', a, b, c, d⟩ => ?_
  exact ⟨v, w', st', H', F', ρ', I', r, a, b, c, d⟩
theorem SP.spd {pins : List (Addr × Obj)} {F : Hp} {ρ : List Addr} {H : Hp} {D : DEnds} {f : Flow} {s' : Shared} (h : SP X pins (qD X n F ρ H D) f s') : SPD X n pins F ρ H D f s' := by
  cases f with
  | next => obtain ⟨σ', H', I, F', ρ', st', p, R, q⟩ := h; exact ⟨σ', H', F', ρ', st', I, p, R, q⟩
  | brk => obtain ⟨σ', H', I, F', ρ', st', p, R, q⟩ := h; exact ⟨σ', H', F', ρ', st', I, p, R, q⟩
  | cont => obtain ⟨σ', H', I, F', ρ', st', p, R, q⟩ := h; exact ⟨σ', H', F', ρ', st', I, p, R, q⟩
  | ret u => obtain ⟨v, σ', H', I, r, w', F', ρ', μ, p, p0, ok, rw, q⟩ := h; exact ⟨v, w', σ', H', F', ρ', μ, I, r, p, p0, ok, rw, q⟩
theorem psd_of {c : Stmt} {t : TS} {w : DS} (h : PS X c t)
    (sim : ∀ (σ : L2.St) (H F : Hp) (ρ : List Addr) (st : Dst) (D : DEnds), Rl X.K n F ρ st σ H → TkD X n D.ex → w D st → t (qD X n F ρ H D) σ H) : PSD X n c w := by
  refine ⟨fun pins s σ H F ρ st D I R tk hw => ?_⟩
  exact thn (h.run pins s σ H _ I (sim σ H F ρ st D R tk hw)) fun f s1 q => SP.spd q
theorem tE.use {w : DE} {σ : L2.St} {H F : Hp} {ρ : List Addr} {st : Dst} {E : DX} {DQ : DQ} {Q : VK} (R : Rl X.K n F ρ st σ H) (tk : TkD X n E) (h : w st DQ E)
    (k : ∀ v w' st' H' F' ρ', Post F ρ H F' ρ' H' → Rl X.K n F' ρ' st' σ H' → RepW X.K F' ρ' w' v → DQ w' st' → Q v H') : tE X n w σ H Q := ⟨F, ρ, st, _, E, R, tk, h, k⟩
theorem tT.use {w : DT} {σ : L2.St} {H F : Hp} {ρ : List Addr} {st : Dst} {E : DX} {DQ : Bool → Dst → Prop} {Q : Bool → Hp → Prop} (R : Rl X.K n F ρ st σ H) (tk : TkD X n E) (h : w st DQ E)
    (k : ∀ b st' H' F' ρ', Post F ρ H F' ρ' H' → Rl X.K n F' ρ' st' σ H' → DQ b st' → Q b H') : tT X n w σ H Q := ⟨F, ρ, st, _, E, R, tk, h, k⟩
theorem tA.use {w : DA} {σ : L2.St} {H F : Hp} {ρ : List Addr} {st : Dst} {E : DX} {DQ : List W → Dst → Prop} {Q : List V → Hp → Prop} (R : Rl X.K n F ρ st σ H) (tk : TkD X n E) (h : w st DQ E)
    (k : ∀ vs ws st' H' F' ρ', Post F ρ H F' ρ' H' → Rl X.K n F' ρ' st' σ H' → RepWL X.K F' ρ' ws vs → DQ ws st' → Q vs H') : tA X n w σ H Q := ⟨F, ρ, st, _, E, R, tk, h, k⟩
theorem tS.use {w : DS} {σ : L2.St} {H F : Hp} {ρ : List Addr} {st : Dst} {DD : DEnds} {D : Ends} (R : Rl X.K n F ρ st σ H) (tk : TkD X n DD.ex) (h : w DD st)
    (k1 : ∀ σ' H' F' ρ' st', Post F ρ H F' ρ' H' → Rl X.K n F' ρ' st' σ' H' → DD.nx st' → D.nx σ' H') (k2 : ∀ v w' H' F' ρ' μ, Post F ρ H F' ρ' H' → Post n.F n.ρ n.H F' ρ' H' → StOk X.K F' ρ' μ H' → RepW X.K F' ρ' w' v → DD.rt w' μ → D.rt v H')
    (k3 : ∀ σ' H' F' ρ' st', Post F ρ H F' ρ' H' → Rl X.K n F' ρ' st' σ' H' → DD.bk st' → D.bk σ' H') (k4 : ∀ σ' H' F' ρ' st', Post F ρ H F' ρ' H' → Rl X.K n F' ρ' st' σ' H' → DD.ct st' → D.ct σ' H') : tS X n w D σ H :=
  ⟨F, ρ, st, DD, R, tk, h, k1, k2, k3, k4⟩
end
end
end Dl
namespace Dl
open PySem PySem.Spec PyProof.Rows L2
variable [TheW]
inductive Grow : Hp → Hp → Hp → Hp → Prop
  | refl (F H : Hp) : Grow F H F H
  | lay {F H F' H' : Hp} {p : Addr} {o : HO} (hp : H p = none) (g : Grow (upd F p o) (upd H p o) F' H') : Grow F H F' H'
theorem Grow.one {F H : Hp} {p : Addr} {o : HO} (hp : H p = none) : Grow F H (upd F p o) (upd H p o) := .lay hp (.refl _ _)
theorem Grow.trans {F H F1 H1 F2 H2 : Hp} (a : Grow F H F1 H1) (b : Grow F1 H1 F2 H2) : Grow F H F2 H2 := by
  induction a with
  | refl => exact b
  | lay hp _ ih => exact .lay hp (ih b)
theorem Grow.sub {F H F1 H1 : Hp} (a : Grow F H F1 H1) (s : SubH F H) : SubH F F1 := by
  induction a with
  | refl => exact SubH.refl _
  | lay hp _ ih => exact (Post.data (ρ := []) s hp).le.trans (ih s.upd)
theorem Rl.grow {K : PySem.W.Frag} {n : En} {F F1 : Hp} {ρ : List Addr} {st : Dst} {σ : L2.St} {H H1 : Hp} (R : Rl K n F ρ st σ H) (g : Grow F H F1 H1) : Post F ρ H F1 ρ H1 ∧ Rl K n F1 ρ st σ H1 := by
  induction g with
  | refl => exact ⟨Post.refl _ _ _, R⟩
  | @lay F H F' H' p o hp g ih =>
    have R1 := R.data (o := o) hp
    obtain ⟨p, R2⟩ := ih R1
    exact ⟨(Post.data R.ok.sub hp).trans p R1.ok.dom, R2⟩
section
variable {X : Cx} {n : En} {e a b : Expr} {pos : Pos}
def wVar (i : Nat) : DE := fun st Q _ => match st.δ[i]? with
  | some (some w) => Q w st
  | _ => False
theorem pd_var (i : Nat) {x : Str} {pos : Pos} (hN : X.N[i]? = some x := by rfl) (hv : Vis X.env.scope x := by first | exact Or.inl rfl | exact Or.inr (Or.inl rfl) | exact Or.inr (Or.inr rfl)) (hd : (x == ("__debug__" : Str)) = false := by decide)
    (hcd : (x == ("__classdict__" : Str)) = false := by decide) : PD X n (.Name x pos) (wVar i) := by
  refine pd_of (pe_var hN hv hd hcd) fun σ H F ρ st Q E R tk hw => ?_
  unfold wVar at hw
  split at hw
  · rename_i w e
    obtain ⟨v, e1, r⟩ := R.slots i w e
    exact ⟨v, e1, w, st, F, ρ, Post.refl _ _ _, R, r, hw⟩
  · exact hw.elim
def wC (d : D) : DE := fun st Q _ => Q (.d d) st
theorem pd_const {v : V} {d : D} (h : PE X e (tC v)) (r : ∀ F, Rep X.K F d v) : PD X n e (wC d) :=
  pd_of h fun σ H F ρ st Q E R tk hw => ⟨.d d, st, F, ρ, Post.refl _ _ _, R, r F, hw⟩
theorem pd_int {i j} : PD X n (.Constant (.int i) j pos) (wC (.int i)) := pd_const pe_int fun _ => rfl
theorem pd_bl {b j} : PD X n (.Constant (.bool b) j pos) (wC (.bl b)) := pd_const pe_bl fun _ => rfl
theorem pd_non {j} : PD X n (.Constant .none j pos) (wC .non) := pd_const pe_non fun _ => rfl
theorem pd_str (l : List Nat) {x : Str} {j} (h : x = mkS l := by decide +kernel) : PD X n (.Constant (.str x) j pos) (wC (.str l)) := pd_const pe_str fun _ => by subst h; rfl
theorem pd_glob {x : Str} {v : V} {u : Value} {d : D} (hg : Gl X x) (hm : X.mg x = some u) (r : RelV v u) (rd : ∀ F, Rep X.K F d v) (hd : (x == ("__debug__" : Str)) = false := by decide) : PD X n (.Name x pos) (wC d) :=
  pd_const (pe_glob hg hm r hd) rd
abbrev DOp := D → D → (D → Prop) → Prop
def OpS (K : PySem.W.Frag) (r : R2) (o : DOp) : Prop := ∀ (F H : Hp) (x y : D) (v u : V) (Q : D → Prop) (k : VK), SubH F H → Rep K F x v → Rep K F y u → o x y Q → (∀ z H' d F', Grow F H F' H' → Rep K F' d z → Q d → k z H') → r v u H k
def wOp (o : DOp) (wa wb : DE) : DE := fun st Q E => wa st (fun a st1 => wb st1 (fun b st2 => match a, b with
  | .d x, .d y => o x y fun z => Q (.d z) st2
  | _, _ => False) E) E
theorem op_sim {r : R2} {o : DOp} {wa wb : DE} (s : OpS X.K r o) {σ : L2.St} {H F : Hp} {ρ : List Addr} {st : Dst} {Q : DQ} {E : DX} (R : Rl X.K n F ρ st σ H) (tk : TkD X n E) (h : wOp o wa wb st Q E) :
    tOp r (tE X n wa) (tE X n wb) σ H (qE X n σ F ρ H Q) := by
  refine tE.use R tk h fun v w1 st1 H1 F1 ρ1 p1 R1 r1 h1 => ?_
  refine tE.use R1 tk h1 fun u w2 st2 H2 F2 ρ2 p2 R2 r2 h2 => ?_
  cases w1 with
  | loc _ => exact h2.elim
  | scr _ => exact h2.elim
  | d x =>
    cases w2 with
    | loc _ => exact h2.elim
    | scr _ => exact h2.elim
    | d y =>
      refine s F2 H2 x y v u _ _ R2.ok.sub (Rep.sub p2.le x v r1) r2 h2 fun z H' d F' g rz q => ?_
      obtain ⟨p3, R3⟩ := R2.grow g
      exact ⟨.d d, st2, F', ρ2, (p1.trans p2 R1.ok.dom).trans p3 R2.ok.dom, R3, rz, q⟩
theorem pd_op {op : Operator} {r : R2} {o : DOp} {wa wb : DE} (ho : OpR X (binaryOp op) r) (s : OpS X.K r o) (ha : PD X n a wa) (hb : PD X n b wb) : PD X n (.BinOp a op b pos) (wOp o wa wb) :=
  pd_of (pe_op ho ha.pe hb.pe) fun _ _ _ _ _ _ _ R tk hw => op_sim s R tk hw
theorem pd_cmp {op : CmpOp} {r : R2} {o : DOp} {wa wb : DE} (ho : OpR X (compareOp op) r) (s : OpS X.K r o) (hm : behindInMarks op b = false) (ha : PD X n a wa) (hb : PD X n b wb) : PD X n (.Compare a [op] [b] pos) (wOp o wa wb) :=
  pd_of (pe_cmpR ho ha.pe hb.pe hm) fun _ _ _ _ _ _ _ R tk hw => op_sim s R tk hw
theorem OpS.or {K : PySem.W.Frag} {r r' : R2} {o o' : DOp} (a : OpS K r o) (b : OpS K r' o') : OpS K (fun x y H Q => r x y H Q ∨ r' x y H Q) (fun x y Q => o x y Q ∨ o' x y Q) :=
  fun F H x y v u Q k s r1 r2 h c => h.elim (fun z => .inl (a F H x y v u Q k s r1 r2 z c)) (fun z => .inr (b F H x y v u Q k s r1 r2 z c))
theorem OpS.imp {K : PySem.W.Frag} {r : R2} {o o' : DOp} (a : OpS K r o) (h : ∀ x y Q, o' x y Q → o x y Q) : OpS K r o' :=
  fun F H x y v u Q k s r1 r2 z c => a F H x y v u Q k s r1 r2 (h x y Q z) c
def oI (g : Int → Int → D) (C : Int → Int → Prop) : DOp := fun x y Q => match x, y with
  | .int i, .int j => C i j ∧ Q (g i j)
  | _, _ => False
theorem ops_I {K : PySem.W.Frag} {C : Int → Int → Prop} {g : Int → Int → V} {g' : Int → Int → D} (hg : ∀ F i j, Rep K F (g' i j) (g i j)) : OpS K (rI C g) (oI g' C) := by
  intro F H x y v u Q k s r1 r2 h c
  cases x <;> first | exact (show False from h).elim | skip
  cases y <;> first | exact (show False from h).elim | skip
  obtain rfl := r1
  obtain rfl := r2
  exact ⟨_, _, rfl, rfl, h.1, c _ H _ F (.refl _ _) (hg F _ _) h.2⟩
def oI0 (g : Int → Int → D) : DOp := fun x y Q => match x, y with
  | .int i, .int j => Q (g i j)
  | _, _ => False
theorem ops_I0 {K : PySem.W.Frag} {g : Int → Int → V} {g' : Int → Int → D} (hg : ∀ F i j, Rep K F (g' i j) (g i j)) : OpS K (rI0 g) (oI0 g') := by
  intro F H x y v u Q k s r1 r2 h c
  cases x <;> first | exact (show False from h).elim | skip
  cases y <;> first | exact (show False from h).elim | skip
  obtain rfl := r1
  obtain rfl := r2
  exact ⟨_, _, rfl, rfl, c _ H _ F (.refl _ _) (hg F _ _) h⟩
def oCatS : DOp := fun x y Q => match x, y with
  | .str a, .str b => a.length + b.length ≤ 16777216 ∧ Q (.str (a ++ b))
  | _, _ => False
theorem mkS_app (a b : List Nat) : mkS a ++ mkS b = mkS (a ++ b) := by
  show (⟨a.toArray ++ b.toArray⟩ : Str) = ⟨(a ++ b).toArray⟩
  simp
theorem mkS_len (a : List Nat) : (mkS a).length = a.length := by simp [mkS, Str.length]
theorem ops_catS {K : PySem.W.Frag} : OpS K (fun x y H Q => ∃ i j, x = .str i ∧ y = .str j ∧ i.length + j.length ≤ sizeLine ∧ Q (.str (i ++ j)) H) oCatS := by
  intro F H x y v u Q k s r1 r2 h c
  cases x <;> first | exact (show False from h).elim | skip
  cases y <;> first | exact (show False from h).elim | skip
  rename_i a b
  obtain rfl := r1
  obtain rfl := r2
  refine ⟨_, _, rfl, rfl, by rw [mkS_len, mkS_len, sizeLine_eq]; exact h.1, ?_⟩
  rw [mkS_app]
  exact c _ H (.str (a ++ b)) F (.refl _ _) rfl h.2
def oCatL : DOp := fun x y Q => match x, y with
  | .lst a, .lst b => a.length + b.length ≤ 16777216 ∧ Q (.lst (a ++ b))
  | _, _ => False
theorem ops_catL {K : PySem.W.Frag} : OpS K rCat oCatL := by
  intro F H x y v u Q k s r1 r2 h c
  cases x <;> first | exact (show False from h).elim | skip
  cases y <;> first | exact (show False from h).elim | skip
  rename_i xs ys
  unfold Rep at r1 r2
  obtain ⟨a, vs, rfl, e1, q1⟩ := r1
  obtain ⟨b, us, rfl, e2, q2⟩ := r2
  refine ⟨a, b, vs, us, rfl, rfl, s _ _ e1, s _ _ e2, by rw [← q1.len, ← q2.len, sizeLine_eq]; exact h.1, fun p hp => ?_⟩
  have g : Grow F H (upd F p (.lst (vs ++ us))) (upd H p (.lst (vs ++ us))) := .one hp
  refine c _ _ (.lst (xs ++ ys)) _ g ?_ h.2
  unfold Rep
  exact ⟨p, _, rfl, upd_same, RepL.sub (g.sub s) _ _ (q1.app q2)⟩
def oCatT : DOp := fun x y Q => match x, y with
  | .tup a, .tup b => a.length + b.length ≤ 16777216 ∧ Q (.tup (a ++ b))
  | _, _ => False
theorem RepL.isNil {K : PySem.W.Frag} {F : Hp} {ds : List D} (h : RepL K F ds []) : ds = [] := by
  have := h.len
  cases ds with
  | nil => rfl
  | cons _ _ => simp at this
theorem ops_catT {K : PySem.W.Frag} : OpS K (rCatA K) oCatT := by
  intro F H x y v u Q k s r1 r2 h c
  cases x <;> first | exact (show False from h).elim | skip
  cases y <;> first | exact (show False from h).elim | skip
  rename_i xs ys
  unfold Rep at r1 r2
  obtain ⟨a, vs, rfl, e1, q1⟩ := r1
  obtain ⟨b, us, rfl, e2, q2⟩ := r2
  refine ⟨a, b, vs, us, rfl, rfl, e1.sq s, e2.sq s, by rw [← q1.len, ← q2.len, sizeLine_eq]; exact h.1, fun z => ?_, fun z1 z2 => ?_, fun z1 z2 p hp => ?_⟩
  · subst z
    obtain rfl := q1.isNil
    exact c _ H (.tup ys) F (.refl _ _) (by unfold Rep; exact ⟨b, us, rfl, e2, q2⟩) h.2
  · subst z2
    obtain rfl := q2.isNil
    exact c _ H (.tup xs) F (.refl _ _) (by unfold Rep; exact ⟨a, vs, rfl, e1, q1⟩) (by have := h.2; rwa [List.append_nil] at this)
  · have g : Grow F H (upd F p (.tup (vs ++ us))) (upd H p (.tup (vs ++ us))) := .one hp
    refine c _ _ (.tup (xs ++ ys)) _ g ?_ h.2
    unfold Rep
    exact ⟨p, _, rfl, .inl upd_same, RepL.sub (g.sub s) _ _ (q1.app q2)⟩
abbrev oAddI : DOp := oI0 (fun i j => .int (i + j))
def oAdd : DOp := fun x y Q => match x, y with
  | .int i, .int j => Q (.int (i + j))
  | .str a, .str b => a.length + b.length ≤ 16777216 ∧ Q (.str (a ++ b))
  | .lst a, .lst b => a.length + b.length ≤ 16777216 ∧ Q (.lst (a ++ b))
  | .tup a, .tup b => a.length + b.length ≤ 16777216 ∧ Q (.tup (a ++ b))
  | _, _ => False
theorem oAdd_or (x y : D) (Q : D → Prop) (h : oAdd x y Q) : oAddI x y Q ∨ oCatS x y Q ∨ oCatL x y Q ∨ oCatT x y Q := by
  cases x <;> cases y <;> first | exact (show False from h).elim | skip
  · exact .inl h
  · exact .inr (.inl h)
  · exact .inr (.inr (.inr h))
  · exact .inr (.inr (.inl h))
theorem pd_add {wa wb : DE} (ha : PD X n a wa) (hb : PD X n b wb) : PD X n (.BinOp a .Add b pos) (wOp oAdd wa wb) :=
  pd_op (op_add.or (op_add_str.or (op_cat.or op_catA))) (((ops_I0 (g' := fun i j => .int (i + j)) fun _ _ _ => rfl).or (ops_catS.or (ops_catL.or ops_catT))).imp oAdd_or) ha hb
def oSub : DOp := oI0 (fun i j => .int (i - j))
theorem pd_sub {wa wb : DE} (ha : PD X n a wa) (hb : PD X n b wb) : PD X n (.BinOp a .Sub b pos) (wOp oSub wa wb) := pd_op op_sub (ops_I0 fun _ _ _ => rfl) ha hb
def oMod : DOp := oI (fun i j => .int (i % j)) fun _ j => 0 < j
theorem pd_mod {wa wb : DE} (ha : PD X n a wa) (hb : PD X n b wb) : PD X n (.BinOp a .Mod b pos) (wOp oMod wa wb) := pd_op op_mod (ops_I fun _ _ _ => rfl) ha hb
def oFdiv : DOp := oI (fun i j => .int (i / j)) CDivW
theorem pd_fdiv {wa wb : DE} (ha : PD X n a wa) (hb : PD X n b wb) : PD X n (.BinOp a .FloorDiv b pos) (wOp oFdiv wa wb) := pd_op op_fdivW (ops_I fun _ _ _ => rfl) ha hb
def oPow : DOp := oI (fun i j => .int (i ^ j.toNat)) CPow
theorem pd_pow {wa wb : DE} (ha : PD X n a wa) (hb : PD X n b wb) : PD X n (.BinOp a .Pow b pos) (wOp oPow wa wb) := pd_op op_pow (ops_I fun _ _ _ => rfl) ha hb
def oLt : DOp := oI0 fun i j => .bl (decide (i < j))
def oLe : DOp := oI0 fun i j => .bl (decide (i ≤ j))
def oGt : DOp := oI0 fun i j => .bl (decide (j < i))
def oGe : DOp := oI0 fun i j => .bl (decide (j ≤ i))
theorem ops_lt {K : PySem.W.Frag} : OpS K (rI0 fun i j => .bl (decide (i < j))) oLt := ops_I0 fun _ _ _ => rfl
theorem ops_le {K : PySem.W.Frag} : OpS K (rI0 fun i j => .bl (decide (i ≤ j))) oLe := ops_I0 fun _ _ _ => rfl
theorem ops_gt {K : PySem.W.Frag} : OpS K (rI0 fun i j => .bl (decide (j < i))) oGt := ops_I0 fun _ _ _ => rfl
theorem ops_ge {K : PySem.W.Frag} : OpS K (rI0 fun i j => .bl (decide (j ≤ i))) oGe := ops_I0 fun _ _ _ => rfl
mutual
def pyD : D → Option PyData
  | .non => some .none
  | .bl b => some (.bool b)
  | .int i => some (.int i)
  | .str x => some (.str (mkS x))
  | .tup xs => (pyL xs).map .tuple
  | .lst xs => (pyL xs).map .list
  | .dic _ _ => none
  | .ins _ _ _ => none
  | .ty _ => none
  | .cls _ => none
  | .exc _ _ _ => none
  | .lamR _ _ => none
  | .lam _ _ _ => none
def pyL : List D → Option (List PyData)
  | [] => some []
  | d :: ds => match pyD d, pyL ds with
    | some x, some xs => some (x :: xs)
    | _, _ => none
end
mutual
theorem rep_dp {K : PySem.W.Frag} {F H : Hp} (s : SubH F H) : ∀ (d : D) (p : PyData) (v : V), pyD d = some p → Rep K F d v → Dp K H v p
  | .non, p, v, e, r => by
    unfold pyD at e; cases e
    obtain rfl := r
    exact .non
  | .bl b, p, v, e, r => by
    unfold pyD at e; cases e
    obtain rfl := r
    exact .bl b
  | .int i, p, v, e, r => by
    unfold pyD at e; cases e
    obtain rfl := r
    exact .int i
  | .str x, p, v, e, r => by
    unfold pyD at e; cases e
    obtain rfl := r
    exact .str _
  | .tup xs, p, v, e, r => by
    unfold pyD at e
    cases q : pyL xs with
    | none => rw [q] at e; cases e
    | some ps =>
      rw [q] at e; cases e
      unfold Rep at r
      obtain ⟨a, vs, rfl, h1, h2⟩ := r
      exact .tup (h1.sq s) (rep_dpL s xs ps vs q h2)
  | .lst xs, p, v, e, r => by
    unfold pyD at e
    cases q : pyL xs with
    | none => rw [q] at e; cases e
    | some ps =>
      rw [q] at e; cases e
      unfold Rep at r
      obtain ⟨a, vs, rfl, h1, h2⟩ := r
      exact .lst (.of (s _ _ h1)) (rep_dpL s xs ps vs q h2)
  | .dic _ _, p, v, e, r => by unfold pyD at e; cases e
  | .ins _ _ _, p, v, e, r => by unfold pyD at e; cases e
  | .ty _, p, v, e, r => by unfold pyD at e; cases e
  | .cls _, p, v, e, r => by unfold pyD at e; cases e
  | .exc _ _ _, p, v, e, r => by unfold pyD at e; cases e
  | .lamR _ _, p, v, e, r => by unfold pyD at e; cases e
  | .lam _ _ _, p, v, e, r => by unfold pyD at e; cases e
theorem rep_dpL {K : PySem.W.Frag} {F H : Hp} (s : SubH F H) : ∀ (ds : List D) (ps : List PyData) (vs : List V), pyL ds = some ps → RepL K F ds vs → DpAll K H vs ps
  | [], ps, vs, e, r => by
    unfold pyL at e; cases e
    unfold RepL at r; subst r
    exact .nil
  | d :: ds, ps, vs, e, r => by
    unfold pyL at e
    cases q : pyD d with
    | none => rw [q] at e; cases e
    | some p =>
      cases q2 : pyL ds with
      | none => rw [q, q2] at e; cases e
      | some ps' =>
        rw [q, q2] at e; cases e
        unfold RepL at r
        obtain ⟨v, t, rfl, h1, h2⟩ := r
        exact .cons (rep_dp s d p v q h1) (rep_dpL s ds ps' t q2 h2)
end
structure oEq (x y : D) (Q : D → Prop) : Prop where
  ex : ∃ p q, pyD x = some p ∧ pyD y = some q ∧ SeqAt.shaped p = true ∧ SeqAt.shaped q = true ∧ Q (.bl (PyData.eqv p q))
structure oNe (x y : D) (Q : D → Prop) : Prop where
  ex : ∃ p q, pyD x = some p ∧ pyD y = some q ∧ SeqAt.shaped p = true ∧ SeqAt.shaped q = true ∧ Q (.bl (!PyData.eqv p q))
theorem ops_eq {K : PySem.W.Frag} : OpS K (rEqD K) oEq := by
  intro F H x y v u Q k s r1 r2 h c
  obtain ⟨p, q, e1, e2, s1, s2, z⟩ := h.ex
  exact ⟨p, q, rep_dp s x p v e1 r1, rep_dp s y q u e2 r2, s1, s2, c _ H (.bl _) F (.refl _ _) rfl z⟩
theorem ops_ne {K : PySem.W.Frag} : OpS K (rNeD K) oNe := by
  intro F H x y v u Q k s r1 r2 h c
  obtain ⟨p, q, e1, e2, s1, s2, z⟩ := h.ex
  exact ⟨p, q, rep_dp s x p v e1 r1, rep_dp s y q u e2 r2, s1, s2, c _ H (.bl _) F (.refl _ _) rfl z⟩
theorem pd_eq {wa wb : DE} {k : Nat} (hr : Room k X.A) (ha : PD X n a wa) (hb : PD X n b wb) : PD X n (.Compare a [.Eq] [b] pos) (wOp oEq wa wb) := pd_cmp (op_eqD hr.units) ops_eq (nomark _) ha hb
end
end Dl
namespace Dl
open PySem PySem.Spec PyProof.Rows L2
variable [TheW]
section
variable {X : Cx} {K : PySem.W.Frag} {n : En} {e a b : Expr} {es : List Expr} {pos : Pos}
def wNil : DA := fun st Q _ => Q [] st
def wCons (wa : DE) (wr : DA) : DA := fun st Q E => wa st (fun w st1 => wr st1 (fun ws st2 => Q (w :: ws) st2) E) E
theorem pad_nil : PAD X n [] wNil := pad_of pa_nil fun σ H F ρ st Q E R tk hw => ⟨[], st, F, ρ, Post.refl _ _ _, R, rfl, hw⟩
theorem pad_cons {wa : DE} {wr : DA} (ha : PD X n e wa) (hr : PAD X n es wr) (hs : starEach (e :: es) X.env = (false, eval e X.env) :: starEach es X.env := by rfl) : PAD X n (e :: es) (wCons wa wr) :=
  pad_of (pa_cons ha.pe hr.pa hs) fun σ H F ρ st Q E R tk hw => by
    refine tE.use R tk hw fun v w1 st1 H1 F1 ρ1 p1 R1 r1 h1 => ?_
    refine tA.use R1 tk h1 fun vs ws st2 H2 F2 ρ2 p2 R2 r2 h2 => ?_
    exact ⟨w1 :: ws, st2, F2, ρ2, p1.trans p2 R1.ok.dom, R2, ⟨v, vs, rfl, r1.post p2, r2⟩, h2⟩
def datas : List W → Option (List D)
  | [] => some []
  | .d x :: ws => match datas ws with
    | some xs => some (x :: xs)
    | none => none
  | .loc _ :: _ => none
  | .scr _ :: _ => none
theorem datas_map : ∀ {ws : List W} {xs : List D}, datas ws = some xs → ws = xs.map W.d
  | [], xs, h => by cases h; rfl
  | .d x :: ws, xs, h => by
    unfold datas at h
    cases e : datas ws with
    | none => rw [e] at h; cases h
    | some ys =>
      rw [e] at h; cases h
      rw [datas_map e]; rfl
  | .loc _ :: _, _, h => by cases h
  | .scr _ :: _, _, h => by cases h
def wTup (wr : DA) : DE := fun st Q E => wr st (fun ws st1 => match datas ws with
  | some xs => xs.length ≤ 16777216 ∧ Q (.d (.tup xs)) st1
  | none => False) E
def wLst (wr : DA) : DE := fun st Q E => wr st (fun ws st1 => match datas ws with
  | some xs => xs.length ≤ 16777216 ∧ Q (.d (.lst xs)) st1
  | none => False) E
theorem pd_tup {k : Nat} {wr : DA} (h : PAD X n es wr) : PD X n (.Tuple es k pos) (wTup wr) :=
  pd_of (pe_tup h.pa) fun σ H F ρ st Q E R tk hw => by
    refine tA.use R tk hw fun vs ws st1 H1 F1 ρ1 p1 R1 r1 h1 => ?_
    cases e : datas ws with
    | none => rw [e] at h1; exact h1.elim
    | some xs =>
      rw [e] at h1
      rw [datas_map e] at r1
      have q := r1.ofD
      refine ⟨by rw [← q.len, sizeLine_eq]; exact h1.1, fun p hp => ?_⟩
      have g : Grow F1 H1 (upd F1 p (.tup vs)) (upd H1 p (.tup vs)) := .one hp
      obtain ⟨p2, R2⟩ := R1.grow g
      refine ⟨.d (.tup xs), st1, _, _, p1.trans p2 R1.ok.dom, R2, ?_, h1.2⟩
      show Rep _ _ (.tup xs) _
      unfold Rep
      exact ⟨p, vs, rfl, .inl upd_same, RepL.sub p2.le _ _ q⟩
theorem pd_lst {wr : DA} (h : PAD X n es wr) : PD X n (.List es pos) (wLst wr) :=
  pd_of (pe_lst h.pa) fun σ H F ρ st Q E R tk hw => by
    refine tA.use R tk hw fun vs ws st1 H1 F1 ρ1 p1 R1 r1 h1 => ?_
    cases e : datas ws with
    | none => rw [e] at h1; exact h1.elim
    | some xs =>
      rw [e] at h1
      rw [datas_map e] at r1
      have q := r1.ofD
      refine ⟨by rw [← q.len, sizeLine_eq]; exact h1.1, fun p hp => ?_⟩
      have g : Grow F1 H1 (upd F1 p (.lst vs)) (upd H1 p (.lst vs)) := .one hp
      obtain ⟨p2, R2⟩ := R1.grow g
      refine ⟨.d (.lst xs), st1, _, _, p1.trans p2 R1.ok.dom, R2, ?_, h1.2⟩
      show Rep _ _ (.lst xs) _
      unfold Rep
      exact ⟨p, vs, rfl, upd_same, RepL.sub p2.le _ _ q⟩
abbrev DCall := List D → (D → Prop) → Prop
def CallS (K : PySem.W.Frag) (r : List V → Hp → VK → Prop) (o : DCall) : Prop := ∀ (F H : Hp) (xs : List D) (vs : List V) (Q : D → Prop) (k : VK), SubH F H → RepL K F xs vs → o xs Q → (∀ z H' d F', Grow F H F' H' → Rep K F' d z → Q d → k z H') → r vs H k
def wCall (o : DCall) (wr : DA) : DE := fun st Q E => wr st (fun ws st1 => match datas ws with
  | some xs => o xs fun z => Q (.d z) st1
  | none => False) E
theorem call_sim {r : List V → Hp → VK → Prop} {o : DCall} {wr : DA} (s : CallS X.K r o) {σ : L2.St} {H F : Hp} {ρ : List Addr} {st : Dst} {Q : DQ} {E : DX} (R : Rl X.K n F ρ st σ H) (tk : TkD X n E) (h : wCall o wr st Q E) :
    tCB r (tA X n wr) σ H (qE X n σ F ρ H Q) := by
  refine tA.use R tk h fun vs ws st1 H1 F1 ρ1 p1 R1 r1 h1 => ?_
  cases e : datas ws with
  | none => rw [e] at h1; exact h1.elim
  | some xs =>
    rw [e] at h1
    rw [datas_map e] at r1
    refine s F1 H1 xs vs _ _ R1.ok.sub r1.ofD h1 fun z H' d F' g rz q => ?_
    obtain ⟨p3, R3⟩ := R1.grow g
    exact ⟨.d d, st1, F', ρ1, p1.trans p3 R1.ok.dom, R3, rz, q⟩
theorem CallS.or {K : PySem.W.Frag} {r r' : List V → Hp → VK → Prop} {o o' : DCall} (a : CallS K r o) (b : CallS K r' o') : CallS K (fun x H Q => r x H Q ∨ r' x H Q) (fun x Q => o x Q ∨ o' x Q) :=
  fun F H xs vs Q k s r1 h c => h.elim (fun z => .inl (a F H xs vs Q k s r1 z c)) (fun z => .inr (b F H xs vs Q k s r1 z c))
theorem CallS.imp {K : PySem.W.Frag} {r : List V → Hp → VK → Prop} {o o' : DCall} (a : CallS K r o) (h : ∀ x Q, o' x Q → o x Q) : CallS K r o' :=
  fun F H xs vs Q k s r1 z c => a F H xs vs Q k s r1 (h xs Q z) c
theorem callR_or {f : Value} {r r' : List V → Hp → VK → Prop} (h : CallR X f r) (h' : CallR X f r') : CallR X f (fun x H Q => r x H Q ∨ r' x H Q) := by
  intro pins s σ H xs us Q I rx q
  rcases q with q | q
  · exact h pins s σ H xs us Q I rx q
  · exact h' pins s σ H xs us Q I rx q
theorem pd_callB {x : Str} {p : Pos} {id : String} {r : List V → Hp → VK → Prop} {o : DCall} {wr : DA} (hc : CallR X (.builtin id) r) (s : CallS X.K r o) (hg : Gl X x) (hm : X.mg x = none) (hv : bootBuiltins x = some (.builtin id)) (ha : PAD X n (e :: es) wr)
    (hn : x ≠ "__name__" := by decide) (hdb : (x == ("__debug__" : Str)) = false := by decide)
    (he : starEach (e :: es) X.env = (false, eval e X.env) :: starEach es X.env := by rfl) (hpl : (backTo pos (starEach es X.env)).any (·.1) = false := by rfl) : PD X n (.Call (.Name x p) (e :: es) [] pos) (wCall o wr) :=
  pd_of (pe_callB hc hg hm hv ha.pa hn hdb he hpl) fun _ _ _ _ _ _ _ R tk hw => call_sim s R tk hw
theorem pd_callTy {x : Str} {p : Pos} {T : String} {r : List V → Hp → VK → Prop} {o : DCall} {wr : DA} (hc : CallR X (.type T) r) (s : CallS X.K r o) (hg : Gl X x) (hm : X.mg x = none) (hv : bootBuiltins x = some (.type T)) (ha : PAD X n (e :: es) wr)
    (hn : x ≠ "__name__" := by decide) (hdb : (x == ("__debug__" : Str)) = false := by decide)
    (he : starEach (e :: es) X.env = (false, eval e X.env) :: starEach es X.env := by rfl) (hpl : (backTo pos (starEach es X.env)).any (·.1) = false := by rfl) : PD X n (.Call (.Name x p) (e :: es) [] pos) (wCall o wr) :=
  pd_of (pe_callTy hc hg hm hv ha.pa hn hdb he hpl) fun _ _ _ _ _ _ _ R tk hw => call_sim s R tk hw
def oLen : DCall := fun xs Q => match xs with
  | [.lst ys] => Q (.int ys.length)
  | [.tup ys] => Q (.int ys.length)
  | [.str x] => x.length ≤ 16777216 ∧ Q (.int x.length)
  | _ => False
theorem repL1 {K : PySem.W.Frag} {F : Hp} {d : D} {vs : List V} (h : RepL K F [d] vs) : ∃ v, vs = [v] ∧ Rep K F d v := by
  unfold RepL at h
  obtain ⟨v, r, rfl, q, t⟩ := h
  unfold RepL at t; subst t
  exact ⟨v, rfl, q⟩
theorem repL2 {K : PySem.W.Frag} {F : Hp} {d e : D} {vs : List V} (h : RepL K F [d, e] vs) : ∃ v u, vs = [v, u] ∧ Rep K F d v ∧ Rep K F e u := by
  unfold RepL at h
  obtain ⟨v, r, rfl, q, t⟩ := h
  obtain ⟨u, rfl, q2⟩ := repL1 t
  exact ⟨v, u, rfl, q, q2⟩
def rLen2 (K : PySem.W.Frag) : List V → Hp → VK → Prop := fun xs H Q => (∃ p ys, xs = [.ref p] ∧ (SqL K H p ys ∨ SqT K H p ys) ∧ Q (.int ys.length) H) ∨ (∃ z, xs = [.str z] ∧ z.length ≤ sizeLine ∧ Q (.int z.length) H)
theorem call_len2 : CallR X (.builtin "len") (rLen2 X.K) := callR_or call_len_seq call_len_str
theorem calls_len {K : PySem.W.Frag} : CallS K (rLen2 K) oLen := by
  intro F H xs vs Q k s r h c
  unfold oLen at h
  split at h
  · obtain ⟨v, rfl, q⟩ := repL1 r
    unfold Rep at q
    obtain ⟨a, us, rfl, e1, q⟩ := q
    refine .inl ⟨a, us, rfl, .inl (.of (s _ _ e1)), ?_⟩
    rw [← q.len]
    exact c _ H (.int _) F (.refl _ _) rfl h
  · obtain ⟨v, rfl, q⟩ := repL1 r
    unfold Rep at q
    obtain ⟨a, us, rfl, e1, q⟩ := q
    refine .inl ⟨a, us, rfl, .inr (e1.sq s), ?_⟩
    rw [← q.len]
    exact c _ H (.int _) F (.refl _ _) rfl h
  · obtain ⟨v, rfl, q⟩ := repL1 r
    obtain rfl := q
    refine .inr ⟨_, rfl, by rw [mkS_len, sizeLine_eq]; exact h.1, ?_⟩
    rw [mkS_len]
    exact c _ H (.int _) F (.refl _ _) rfl h.2
  · exact h.elim
def oIntI : DCall := fun xs Q => match xs with
  | [.int i] => Q (.int i)
  | [.bl b] => Q (.int (if b then 1 else 0))
  | _ => False
theorem calls_int {K : PySem.W.Frag} : CallS K (fun xs H Q => (∃ i, xs = [.int i] ∧ Q (.int i) H) ∨ ∃ k, xs = [.bl k] ∧ Q (.int (if k then 1 else 0)) H) oIntI := by
  intro F H xs vs Q k s r h c
  unfold oIntI at h
  split at h
  · obtain ⟨v, rfl, q⟩ := repL1 r
    obtain rfl := q
    exact .inl ⟨_, rfl, c _ H (.int _) F (.refl _ _) rfl h⟩
  · obtain ⟨v, rfl, q⟩ := repL1 r
    obtain rfl := q
    exact .inr ⟨_, rfl, c _ H (.int _) F (.refl _ _) rfl h⟩
  · exact h.elim
def bools : List D → Option (List Bool)
  | [] => some []
  | .bl b :: xs => match bools xs with
    | some bs => some (b :: bs)
    | none => none
  | _ :: _ => none
theorem bools_rep {K : PySem.W.Frag} {F : Hp} : ∀ {xs : List D} {bs : List Bool} {vs : List V}, bools xs = some bs → RepL K F xs vs → vs = bs.map V.bl
  | [], bs, vs, e, r => by cases e; unfold RepL at r; exact r
  | .bl b :: xs, bs, vs, e, r => by
    unfold bools at e
    cases q : bools xs with
    | none => rw [q] at e; cases e
    | some cs =>
      rw [q] at e; cases e
      unfold RepL at r
      obtain ⟨v, t, rfl, h1, h2⟩ := r
      obtain rfl := h1
      rw [bools_rep q h2]; rfl
  | .non :: _, _, _, e, _ => by cases e
  | .int _ :: _, _, _, e, _ => by cases e
  | .str _ :: _, _, _, e, _ => by cases e
  | .tup _ :: _, _, _, e, _ => by cases e
  | .lst _ :: _, _, _, e, _ => by cases e
  | .dic _ _ :: _, _, _, e, _ => by cases e
  | .ins _ _ _ :: _, _, _, e, _ => by cases e
  | .ty _ :: _, _, _, e, _ => by cases e
  | .cls _ :: _, _, _, e, _ => by cases e
  | .exc _ _ _ :: _, _, _, e, _ => by cases e
  | .lamR _ _ :: _, _, _, e, _ => by cases e
  | .lam _ _ _ :: _, _, _, e, _ => by cases e
def oAll : DCall := fun xs Q => match xs with
  | [.lst ys] => ∃ bs, bools ys = some bs ∧ Q (.bl (bs.all id))
  | _ => False
theorem calls_all {K : PySem.W.Frag} : CallS K (rAll K) oAll := by
  intro F H xs vs Q k s r h c
  unfold oAll at h
  split at h
  · obtain ⟨v, rfl, q⟩ := repL1 r
    unfold Rep at q
    obtain ⟨a, us, rfl, e1, q⟩ := q
    obtain ⟨bs, e2, z⟩ := h
    have e3 := bools_rep e2 q
    subst e3
    exact ⟨a, bs, rfl, .of (s _ _ e1), c _ H (.bl _) F (.refl _ _) rfl z⟩
  · exact h.elim
def oListOf : DCall := fun xs Q => match xs with
  | [.lst ys] => Q (.lst ys)
  | [.tup ys] => Q (.lst ys)
  | _ => False
theorem calls_listOf {K : PySem.W.Frag} : CallS K (fun xs H Q => ∃ p ys, xs = [.ref p] ∧ (SqL K H p ys ∨ SqT K H p ys) ∧ ∀ l, H l = none → Q (.ref l) (upd H l (.lst ys))) oListOf := by
  intro F H xs vs Q k s r h c
  have go : ∀ (ys : List D) (us : List V) (l : Addr), RepL K F ys us → H l = none → Q (.lst ys) → k (.ref l) (upd H l (.lst us)) := fun ys us l q hl z => by
    have g : Grow F H (upd F l (.lst us)) (upd H l (.lst us)) := .one hl
    refine c _ _ (.lst ys) _ g ?_ z
    unfold Rep
    exact ⟨l, us, rfl, upd_same, RepL.sub (g.sub s) _ _ q⟩
  unfold oListOf at h
  split at h
  · obtain ⟨v, rfl, q⟩ := repL1 r
    unfold Rep at q
    obtain ⟨a, us, rfl, e1, q⟩ := q
    exact ⟨a, us, rfl, .inl (.of (s _ _ e1)), fun l hl => go _ _ l q hl h⟩
  · obtain ⟨v, rfl, q⟩ := repL1 r
    unfold Rep at q
    obtain ⟨a, us, rfl, e1, q⟩ := q
    exact ⟨a, us, rfl, .inr (e1.sq s), fun l hl => go _ _ l q hl h⟩
  · exact h.elim
def tyOf : D → Option Ty
  | .non => some (.ty "NoneType")
  | .bl _ => some (.ty "bool")
  | .int _ => some (.ty "int")
  | .str _ => some (.ty "str")
  | .tup _ => some (.ty "tuple")
  | .lst _ => some (.ty "list")
  | .dic _ _ => none
  | .ins c _ _ => some (.own c)
  | .ty _ => none
  | .cls _ => none
  | .exc _ _ _ => none
  | .lamR _ _ => none
  | .lam _ _ _ => none
structure ClsI (K : PySem.W.Frag) (c : Str) : Prop where
  cl : Cls K (He.ga K c)
  ha : PySem.W.findIn K (.ref (He.ga K c)) "__class__" = some (some (.builtin "object.__class__"))
  hn : PySem.W.specialIn K (.builtin "object.__class__") "__get__" = some (some (.builtin "getset_descriptor.__get__"))
  htk : PySem.W.takesIn K (.builtin "object.__class__") = some true
  hm : PySem.W.mroIn K (He.ga K c) (.type "object") = some true
def TyGood (K : PySem.W.Frag) : Ty → Prop
  | .ty _ => True
  | .own c => ClsI K c
theorem tyX_of {K : PySem.W.Frag} {F H : Hp} {d : D} {v : V} {t : Ty} (s : SubH F H) (r : Rep K F d v) (e : tyOf d = some t) (g : TyGood K t) : TyX K H v (t.v K) := by
  cases d with
  | non => cases e; obtain rfl := r; exact .base .non
  | bl b => cases e; obtain rfl := r; exact .base (.bl b)
  | int i => cases e; obtain rfl := r; exact .base (.int i)
  | str x => cases e; obtain rfl := r; exact .base (.str _)
  | tup xs =>
    cases e
    unfold Rep at r
    obtain ⟨a, vs, rfl, h, _⟩ := r
    rcases h with h | ⟨o, its, m, h, hc, _⟩
    · exact .base (.tup (s _ _ h))
    · exact .kTuple h hc
  | lst xs =>
    cases e
    unfold Rep at r
    obtain ⟨a, vs, rfl, h, _⟩ := r
    exact .base (.lst (s _ _ h))
  | dic _ _ => cases e
  | ins c ks vs =>
    cases e
    unfold Rep at r
    obtain ⟨a, dx, fs, rfl, h, _⟩ := r
    have g : ClsI K c := g
    exact .base (.ins (s _ _ h) g.cl g.ha g.hn g.htk g.hm)
  | ty _ => cases e
  | cls _ => cases e
  | exc _ _ _ => cases e
  | lamR _ _ => cases e
  | lam _ _ _ => cases e
def clsOf : D → Option Ty
  | .ty n => some (.ty n)
  | .cls c => some (.own c)
  | _ => none
theorem clsV_of {K : PySem.W.Frag} {F : Hp} {d : D} {v : V} {t : Ty} (r : Rep K F d v) (e : clsOf d = some t) : ClsV v (t.v K) := by
  cases d <;> first | (cases e; done) | skip
  · cases e; obtain rfl := r; exact .ty _
  · cases e; obtain rfl := r; exact .own _
def clssOf : List D → Option (List Ty)
  | [] => some []
  | d :: ds => match clsOf d, clssOf ds with
    | some t, some ts => some (t :: ts)
    | _, _ => none
theorem clssV_of {K : PySem.W.Frag} {F : Hp} : ∀ {ds : List D} {vs : List V} {ts : List Ty}, RepL K F ds vs → clssOf ds = some ts → Paired ClsV vs (ts.map (Ty.v K))
  | [], vs, ts, r, e => by cases e; unfold RepL at r; subst r; exact .nil
  | d :: ds, vs, ts, r, e => by
    unfold clssOf at e
    cases h1 : clsOf d with
    | none => rw [h1] at e; cases e
    | some t =>
      cases h2 : clssOf ds with
      | none => rw [h1, h2] at e; cases e
      | some us =>
        rw [h1, h2] at e; cases e
        unfold RepL at r
        obtain ⟨v, rr, rfl, q, t'⟩ := r
        exact .cons (clsV_of q h1) (clssV_of t' h2)
def oIsiB (ans : Ty → Ty → Option Bool) : DCall := fun xs Q => match xs with
  | [x, .tup cs] => ∃ t ts b, tyOf x = some t ∧ clssOf cs = some ts ∧ ts ≠ [] ∧ ts.foldr (fun c r => match ans t c, r with
      | some a, some b => some (a || b)
      | _, _ => none) (some false) = some b ∧ Q (.bl b)
  | [x, c] => ∃ t u b, tyOf x = some t ∧ clsOf c = some u ∧ ans t u = some b ∧ Q (.bl b)
  | _ => False
structure oIsi (ans : Ty → Ty → Option Bool) (xs : List D) (Q : D → Prop) : Prop where
  ex : oIsiB ans xs Q
structure AnsOk (K : PySem.W.Frag) (ans : Ty → Ty → Option Bool) : Prop where
  one : ∀ t c b, ans t c = some b → PySem.W.kitOne K (t.v K) (c.v K) = some b
  good : ∀ t c b, ans t c = some b → TyGood K t
def rIsi2 (K : PySem.W.Frag) : List V → Hp → VK → Prop := fun xs H Q => rIsi K xs H Q ∨ rIsiT K xs H Q ∨ rIsiK K xs H Q
theorem call_isi2 : CallR X (.builtin "isinstance") (rIsi2 X.K) := callR_or call_isi (callR_or call_isiT call_isiK)
theorem kit_any {K : PySem.W.Frag} {ans : Ty → Ty → Option Bool} (A : AnsOk K ans) {t : Ty} : ∀ {ts : List Ty} {b : Bool}, ts.foldr (fun c r => match ans t c, r with
      | some a, some b => some (a || b)
      | _, _ => none) (some false) = some b → PySem.W.kitAny K (t.v K) (ts.map (Ty.v K)) = some b
  | [], b, e => by cases e; rfl
  | c :: ts, b, e => by
    rw [List.foldr_cons] at e
    cases h1 : ans t c with
    | none => rw [h1] at e; cases e
    | some a =>
      cases h2 : ts.foldr (fun c r => match ans t c, r with
        | some a, some b => some (a || b)
        | _, _ => none) (some false) with
      | none => rw [h1, h2] at e; cases e
      | some b' =>
        rw [h1, h2] at e
        have e : some (a || b') = some b := e
        cases e
        refine kitAny_cons (A.one t c a h1) (fun z => ?_) (fun z => by rw [z]; rfl)
        subst z
        exact kit_any A h2
theorem calls_isi {K : PySem.W.Frag} {ans : Ty → Ty → Option Bool} (A : AnsOk K ans) : CallS K (rIsi2 K) (oIsi ans) := by
  intro F H xs vs Q k s r h c
  have h := h.ex
  unfold oIsiB at h
  split at h
  · rename_i x cs
    obtain ⟨v, u, rfl, q1, q2⟩ := repL2 r
    obtain ⟨t, ts, b, e1, e2, ne, e3, z⟩ := h
    have fin := c _ H (.bl b) F (.refl _ _) rfl z
    unfold Rep at q2
    obtain ⟨a, us, rfl, h1, h2⟩ := q2
    have g : TyGood K t := by
      cases ts with
      | nil => exact absurd rfl ne
      | cons c ts =>
        rw [List.foldr_cons] at e3
        cases h1 : ans t c with
        | none => rw [h1] at e3; cases e3
        | some a => exact A.good t c a h1
    have pv := clssV_of h2 e2
    rcases h1 with h1 | ⟨o, its, m, h1, hc, hd, _, hv⟩
    · exact .inr (.inl ⟨v, a, us, t.v K, _, b, rfl, s _ _ h1, pv, tyX_of s q1 e1 g, kit_any A e3, fin⟩)
    · obtain ⟨oc, od, dt, sl⟩ := o
      simp only at hc hd
      subst hc hd
      have e5 := ClsV.all pv hv
      refine .inr (.inr ⟨v, a, od, its.toList, m, sl, t.v K, b, rfl, by rw [h1], tyX_of s q1 e1 g, by rw [e5]; exact kit_any A e3, fin⟩)
  · rename_i x cl hne
    obtain ⟨v, u, rfl, q1, q2⟩ := repL2 r
    obtain ⟨t, w, b, e1, e2, e3, z⟩ := h
    exact .inl ⟨v, u, t.v K, w.v K, b, rfl, clsV_of q2 e2, tyX_of s q1 e1 (A.good _ _ _ e3), A.one _ _ _ e3, c _ H (.bl b) F (.refl _ _) rfl z⟩
  · exact h.elim
def ansB : Ty → Ty → Option Bool
  | .ty t, .ty c => if ["NoneType", "bool", "int", "str", "tuple", "list"].contains t && ["bool", "int", "str", "tuple", "list"].contains c then some (t == c || (t == "bool" && c == "int")) else none
  | _, _ => none
theorem ansB_kit : (["NoneType", "bool", "int", "str", "tuple", "list"].all fun t => ["bool", "int", "str", "tuple", "list"].all fun c => decide (kitB t c = some (t == c || (t == "bool" && c == "int")))) = true := by decide +kernel
theorem ansB_ty {t c : Ty} {b : Bool} (h : ansB t c = some b) : ∃ x y, t = .ty x ∧ c = .ty y ∧ PySem.W.kitOne K (.type x) (.type y) = some b := by
  cases t with
  | own _ => exact nomatch (show (none : Option Bool) = some b from h)
  | ty t =>
    cases c with
    | own _ => exact nomatch (show (none : Option Bool) = some b from h)
    | ty c =>
      have h : (if ["NoneType", "bool", "int", "str", "tuple", "list"].contains t && ["bool", "int", "str", "tuple", "list"].contains c then some (t == c || (t == "bool" && c == "int")) else none) = some b := h
      by_cases hc : (["NoneType", "bool", "int", "str", "tuple", "list"].contains t && ["bool", "int", "str", "tuple", "list"].contains c) = true
      · rw [if_pos hc] at h
        rw [Bool.and_eq_true] at hc
        have h1 := List.all_eq_true.mp ansB_kit t (by simpa using hc.1)
        have h2 := List.all_eq_true.mp h1 c (by simpa using hc.2)
        exact ⟨t, c, rfl, rfl, kit_ty ((of_decide_eq_true h2).trans h)⟩
      · rw [if_neg hc] at h
        cases h
theorem ansB_ok (K : PySem.W.Frag) : AnsOk K ansB where
  one := fun t c b h => by
    obtain ⟨x, y, rfl, rfl, e⟩ := ansB_ty (K := K) h
    exact e
  good := fun t c b h => by
    obtain ⟨x, y, rfl, rfl, e⟩ := ansB_ty (K := K) h
    trivial
end
def ansW (tbl : List ((Ty × Ty) × Bool)) : Ty → Ty → Option Bool
  | .ty a, .ty b => ansB (.ty a) (.ty b)
  | t, c => tbl.lookup (t, c)
end Dl
namespace Dl
open PySem PySem.Spec PyProof.Rows L2
variable [TheW]
section
variable {X : Cx} {n : En} {e a b c : Expr} {es rest : List Expr} {pos : Pos}
def oIx : DOp := fun x y Q => match x, y with
  | .lst xs, .int i => match atI xs i with
    | some d => Q d
    | none => False
  | .tup xs, .int i => match atI xs i with
    | some d => Q d
    | none => False
  | .str xs, .int i => xs.length ≤ 16777216 ∧ match atI xs i with
    | some c => Q (.str [c])
    | none => False
  | _, _ => False
theorem atI_rep {K : PySem.W.Frag} {F : Hp} {xs : List D} {vs : List V} {i : Int} {d : D} (r : RepL K F xs vs) (h : atI xs i = some d) : ∃ v, atI vs i = some v ∧ Rep K F d v := by
  unfold atI at h ⊢
  rw [← r.len]
  cases e : ixN xs.length i with
  | none => rw [e] at h; cases h
  | some j =>
    rw [e] at h
    exact r.get h
theorem ops_ix {K : PySem.W.Frag} : OpS K (rIx K) oIx := by
  intro F H x y v u Q k s r1 r2 h c
  unfold oIx at h
  split at h
  · rename_i xs i
    obtain rfl := r2
    unfold Rep at r1
    obtain ⟨a, vs, rfl, e1, q⟩ := r1
    cases e : atI xs i with
    | none => rw [e] at h; exact h.elim
    | some d =>
      rw [e] at h
      obtain ⟨z, e2, rz⟩ := atI_rep q e
      exact .inl ⟨a, vs, i, z, rfl, rfl, .of (s _ _ e1), e2, c z H d F (.refl _ _) rz h⟩
  · rename_i xs i
    obtain rfl := r2
    unfold Rep at r1
    obtain ⟨a, vs, rfl, e1, q⟩ := r1
    cases e : atI xs i with
    | none => rw [e] at h; exact h.elim
    | some d =>
      rw [e] at h
      obtain ⟨z, e2, rz⟩ := atI_rep q e
      exact .inr (.inl ⟨a, vs, i, z, rfl, rfl, e1.sq s, e2, c z H d F (.refl _ _) rz h⟩)
  · rename_i xs i
    obtain rfl := r2
    obtain rfl := r1
    obtain ⟨hz, h⟩ := h
    cases e : atI xs i with
    | none => rw [e] at h; exact h.elim
    | some d =>
      rw [e] at h
      exact .inr (.inr ⟨_, i, d, rfl, rfl, by rw [mkS_len, sizeLine_eq]; exact hz, by simpa using e, c (.str ⟨#[d]⟩) H (.str [d]) F (.refl _ _) rfl h⟩)
  · exact h.elim
def cutD {α : Type} (xs : List α) (lo hi : Option Int) : List α := (xs.drop (HT.sIx xs.length 0 lo)).take (HT.sIx xs.length xs.length hi - HT.sIx xs.length 0 lo)
abbrev DPo := Dst → (Option Int → Dst → Prop) → DX → Prop
structure POD (X : Cx) (n : En) (e : Option Expr) (w : DPo) : Prop where
  run : ∀ (pins : List (Addr × Obj)) (s : Shared) (σ : L2.St) (H F : Hp) (ρ : List Addr) (st : Dst) (Q : Option Int → Dst → Prop) (E : DX), Inv X pins σ H s → Rl X.K n F ρ st σ H → TkD X n E → w st Q E →
    wpAny (model X.prog X.w) X.A (evalPart e X.env) (fun u s' => ∃ o st' H' F' ρ', Inv X pins σ H' s' ∧ IsPart u o ∧ Post F ρ H F' ρ' H' ∧ Rl X.K n F' ρ' st' σ H' ∧ Q o st') X.xe s
def tO (X : Cx) (n : En) (w : DPo) : TO := fun σ H Q => ∃ F ρ st DQ E, Rl X.K n F ρ st σ H ∧ TkD X n E ∧ w st DQ E ∧
  ∀ o st' H' F' ρ', Post F ρ H F' ρ' H' → Rl X.K n F' ρ' st' σ H' → DQ o st' → Q o H'
theorem POD.po {e : Option Expr} {w : DPo} (h : POD X n e w) : PO X e (tO X n w) := by
  refine ⟨fun pins s σ H Q I ⟨F, ρ, st, DQ, E, R, tk, hw, k⟩ => ?_⟩
  refine thn (h.run pins s σ H F ρ st DQ E I R tk hw) fun u s1 ⟨o, st', H', F', ρ', I', r, a, b, d⟩ => ?_
  exact ⟨o, H', I', r, k o st' H' F' ρ' a b d⟩
def wNoPart : DPo := fun st Q _ => Q none st
def wPart (w : DE) : DPo := fun st Q E => w st (fun v st' => match v with
  | .d (.int i) => Q (some i) st'
  | _ => False) E
theorem pod_none : POD X n none wNoPart := ⟨fun pins s σ H F ρ st Q E I R tk hw => thn (po_none.run pins s σ H (fun o H' => o = none ∧ H' = H) I ⟨rfl, rfl⟩) fun u s1 ⟨o, H', I', r, e1, e2⟩ => by
  subst e1 e2
  exact ⟨none, st, _, F, ρ, I', r, Post.refl _ _ _, R, hw⟩⟩
theorem pod_some {w : DE} (h : PD X n e w) : POD X n (some e) (wPart w) := ⟨fun pins s σ H F ρ st Q E I R tk hw => by
  refine thn ((po_some h.pe).run pins s σ H (fun o H' => ∃ st' F' ρ', Post F ρ H F' ρ' H' ∧ Rl X.K n F' ρ' st' σ H' ∧ Q o st') I ?_) fun u s1 ⟨o, H', I', r, st', F', ρ', p, R', q⟩ => ⟨o, st', H', F', ρ', I', r, p, R', q⟩
  refine tE.use R tk hw fun v w1 st1 H1 F1 ρ1 p1 R1 r1 h1 => ?_
  split at h1
  · rename_i i
    obtain rfl := r1
    exact ⟨i, rfl, st1, F1, ρ1, p1, R1, h1⟩
  · exact h1.elim⟩
def oSl : D → Option Int → Option Int → (D → Prop) → Prop := fun x lo hi Q => match x with
  | .lst xs => Q (.lst (cutD xs lo hi))
  | .tup xs => Q (.tup (cutD xs lo hi))
  | .str xs => xs.length ≤ 16777216 ∧ Q (.str (cutD xs lo hi))
  | _ => False
def wSl (w : DE) (lo hi : DPo) : DE := fun st Q E => w st (fun v st1 => lo st1 (fun l st2 => hi st2 (fun h st3 => match v with
  | .d x => oSl x l h fun z => Q (.d z) st3
  | _ => False) E) E) E
theorem repL_cut {K : PySem.W.Frag} {F : Hp} {xs : List D} {vs : List V} (r : RepL K F xs vs) (lo hi : Option Int) : RepL K F (cutD xs lo hi) (cutV vs lo hi) := by
  unfold cutD cutV
  rw [← r.len]
  exact (r.drop _).take _
theorem cutS_mk (xs : List Nat) (lo hi : Option Int) : cutS (mkS xs) lo hi = mkS (cutD xs lo hi) := by
  unfold cutS cutD
  simp [mkS, Str.length]
def rSl3 (K : PySem.W.Frag) : V → Option Int → Option Int → Hp → VK → Prop := fun x lo hi H Q => rSlL K x lo hi H Q ∨ rSlA K x lo hi H Q ∨ rSlS x lo hi H Q
theorem sl_3 : SlR X (rSl3 X.K) := sl_list.or (sl_tupA.or sl_str)
theorem pd_slice {w : DE} {lo hi : Option Expr} {wl wh : DPo} {p2 : Pos} (h : PD X n e w) (hl : POD X n lo wl) (hh : POD X n hi wh) : PD X n (.Subscript e (.Slice lo hi none p2) pos) (wSl w wl wh) :=
  pd_of (pe_slice sl_3 h.pe hl.po hh.po) fun σ H F ρ st Q E R tk hw => by
    refine tE.use R tk hw fun v w1 st1 H1 F1 ρ1 p1 R1 r1 h1 => ?_
    refine ⟨F1, ρ1, st1, _, E, R1, tk, h1, fun l st2 H2 F2 ρ2 p2 R2 h2 => ?_⟩
    refine ⟨F2, ρ2, st2, _, E, R2, tk, h2, fun u st3 H3 F3 ρ3 p3 R3 h3 => ?_⟩
    cases w1 with
    | loc _ => exact h3.elim
    | scr _ => exact h3.elim
    | d x =>
      have r4 : Rep X.K F3 x v := Rep.sub p3.le x v (Rep.sub p2.le x v r1)
      clear r1
      have p13 := (p1.trans p2 R1.ok.dom).trans p3 R2.ok.dom
      have h4 : oSl x l u fun z => Q (.d z) st3 := h3
      clear h3
      unfold oSl at h4
      split at h4
      · rename_i xs
        unfold Rep at r4
        obtain ⟨a, vs, rfl, e1, q⟩ := r4
        refine .inl ⟨a, vs, rfl, .of (R3.ok.sub _ _ e1), fun p hp => ?_⟩
        have g : Grow F3 H3 (upd F3 p (.lst (cutV vs l u))) (upd H3 p (.lst (cutV vs l u))) := .one hp
        obtain ⟨p4, R4⟩ := R3.grow g
        refine ⟨.d (.lst (cutD xs l u)), st3, _, _, p13.trans p4 R3.ok.dom, R4, ?_, h4⟩
        show Rep _ _ (.lst _) _
        unfold Rep
        exact ⟨p, _, rfl, upd_same, RepL.sub p4.le _ _ (repL_cut q l u)⟩
      · rename_i xs
        unfold Rep at r4
        obtain ⟨a, vs, rfl, e1, q⟩ := r4
        refine .inr (.inl ⟨a, vs, rfl, e1.sq R3.ok.sub, fun hz => ?_, fun hz p hp => ?_⟩)
        · refine ⟨.d (.tup (cutD xs l u)), st3, F3, ρ3, p13, R3, ?_, h4⟩
          have e2 : cutD xs l u = xs := by
            unfold cutD
            rw [q.len, hz.1, hz.2, List.drop_zero, Nat.sub_zero, ← q.len, List.take_length]
          rw [e2]
          show Rep _ _ (.tup xs) _
          unfold Rep
          exact ⟨a, vs, rfl, e1, q⟩
        · have g : Grow F3 H3 (upd F3 p (.tup (cutV vs l u))) (upd H3 p (.tup (cutV vs l u))) := .one hp
          obtain ⟨p4, R4⟩ := R3.grow g
          refine ⟨.d (.tup (cutD xs l u)), st3, _, _, p13.trans p4 R3.ok.dom, R4, ?_, h4⟩
          show Rep _ _ (.tup _) _
          unfold Rep
          exact ⟨p, _, rfl, .inl upd_same, RepL.sub p4.le _ _ (repL_cut q l u)⟩
      · rename_i xs
        obtain rfl := r4
        refine .inr (.inr ⟨_, rfl, by rw [mkS_len, sizeLine_eq]; exact h4.1, ?_⟩)
        rw [cutS_mk]
        exact ⟨.d (.str (cutD xs l u)), st3, F3, ρ3, p13, R3, rfl, h4.2⟩
      · exact h4.elim
def wTest (w : DE) : DT := fun st Q E => w st (fun v st' => match v with
  | .d (.bl b) => Q b st'
  | _ => False) E
theorem bl_of {w1 : W} {Q : Bool → Dst → Prop} {st : Dst} {K : PySem.W.Frag} {F : Hp} {ρ : List Addr} {v : V} (h : match w1 with
  | .d (.bl b) => Q b st
  | _ => False) (r : RepW K F ρ w1 v) : ∃ b, v = .bl b ∧ Q b st := by
  split at h
  · rename_i b
    exact ⟨b, r, h⟩
  · exact h.elim
theorem ptd_val {w : DE} (h : PD X n e w) (he : ∀ whole, isTrue e X.env whole = (do let v ← whole; standAt e.pos; holding [v] (truthy v)) := by intro _; rfl) : PTD X n e (wTest w) :=
  ptd_of (pt_val h.pe he) fun σ H F ρ st Q E R tk hw => by
    refine tE.use R tk hw fun v w1 st1 H1 F1 ρ1 p1 R1 r1 h1 => ?_
    obtain ⟨b, rfl, q⟩ := bl_of h1 r1
    exact ⟨b, rfl, st1, F1, ρ1, p1, R1, q⟩
theorem ptd_cmp {op : CmpOp} {r : R2} {o : DOp} {wa wb : DE} (ho : OpR X (compareOp op) r) (s : OpS X.K r o) (hm : behindInMarks op b = false) (ha : PD X n a wa) (hb : PD X n b wb) : PTD X n (.Compare a [op] [b] pos) (wTest (wOp o wa wb)) :=
  ptd_of (pt_cmpR ho ha.pe hb.pe hm) fun σ H F ρ st Q E R tk hw => by
    refine tE.use R tk hw fun v w1 st1 H1 F1 ρ1 p1 R1 r1 h1 => ?_
    refine tE.use R1 tk h1 fun u w2 st2 H2 F2 ρ2 p2 R2 r2 h2 => ?_
    cases w1 <;> first | exact h2.elim | skip
    cases w2 <;> first | exact h2.elim | skip
    rename_i x y
    refine s F2 H2 x y v u _ _ R2.ok.sub (Rep.sub p2.le x v r1) r2 h2 fun z H' d F' g rz q => ?_
    obtain ⟨p3, R3⟩ := R2.grow g
    obtain ⟨b, rfl, q⟩ := bl_of (ρ := ρ2) q rz
    exact ⟨b, rfl, st2, F', ρ2, (p1.trans p2 R1.ok.dom).trans p3 R2.ok.dom, R3, q⟩
def wAndT (a b : DT) : DT := fun st Q E => a st (fun c st1 => brD c (b st1 Q E) (Q false st1)) E
def wOrT (a b : DT) : DT := fun st Q E => a st (fun c st1 => brD c (Q true st1) (b st1 Q E)) E
def wNotT (a : DT) : DT := fun st Q E => a st (fun c st1 => Q (!c) st1) E
theorem ptd_not {w : DT} (h : PTD X n a w) : PTD X n (.UnaryOp .Not a pos) (wNotT w) :=
  ptd_of (pt_not h.pt) fun σ H F ρ st Q E R tk hw => tT.use R tk hw fun b st1 H1 F1 ρ1 p1 R1 h1 => ⟨st1, F1, ρ1, p1, R1, h1⟩
theorem pwd_and1 {w : DT} (h : PTD X n a w) : PWD X n (.BoolOp .And [a] pos) w :=
  pwd_of (pw_and1 h.pt) fun σ H F ρ st Q E R tk hw => tT.use R tk hw fun b st1 H1 F1 ρ1 p1 R1 h1 => ⟨st1, F1, ρ1, p1, R1, h1⟩
theorem pwd_or1 {w : DT} (h : PTD X n a w) : PWD X n (.BoolOp .Or [a] pos) w :=
  pwd_of (pw_or1 h.pt) fun σ H F ρ st Q E R tk hw => tT.use R tk hw fun b st1 H1 F1 ρ1 p1 R1 h1 => ⟨st1, F1, ρ1, p1, R1, h1⟩
theorem pwd_and {wa wb : DT} (ha : PTD X n a wa) (hb : PWD X n (.BoolOp .And (b :: rest) pos) wb) : PWD X n (.BoolOp .And (a :: b :: rest) pos) (wAndT wa wb) :=
  pwd_of (pw_and ha.pt hb.pw) fun σ H F ρ st Q E R tk hw => by
    refine tT.use R tk hw fun c st1 H1 F1 ρ1 p1 R1 h1 => ?_
    cases c with
    | true => have h1 := brD_t h1; exact tT.use R1 tk h1 fun b st2 H2 F2 ρ2 p2 R2 h2 => ⟨st2, F2, ρ2, p1.trans p2 R1.ok.dom, R2, h2⟩
    | false => have h1 := brD_f h1; exact ⟨st1, F1, ρ1, p1, R1, h1⟩
theorem pwd_or {wa wb : DT} (ha : PTD X n a wa) (hb : PWD X n (.BoolOp .Or (b :: rest) pos) wb) : PWD X n (.BoolOp .Or (a :: b :: rest) pos) (wOrT wa wb) :=
  pwd_of (pw_or ha.pt hb.pw) fun σ H F ρ st Q E R tk hw => by
    refine tT.use R tk hw fun c st1 H1 F1 ρ1 p1 R1 h1 => ?_
    cases c with
    | false => have h1 := brD_f h1; exact tT.use R1 tk h1 fun b st2 H2 F2 ρ2 p2 R2 h2 => ⟨st2, F2, ρ2, p1.trans p2 R1.ok.dom, R2, h2⟩
    | true => have h1 := brD_t h1; exact ⟨st1, F1, ρ1, p1, R1, h1⟩
def wAndV (a b : DE) : DE := fun st Q E => a st (fun v st1 => match v with
  | .d (.bl c) => brD c (b st1 Q E) (Q (.d (.bl false)) st1)
  | _ => False) E
theorem pd_one {op} {w : DE} (h : PD X n a w) : PD X n (.BoolOp op [a] pos) w :=
  pd_of (pe_one h.pe) fun σ H F ρ st Q E R tk hw => tE.use R tk hw fun v w1 st1 H1 F1 ρ1 p1 R1 r1 h1 => ⟨w1, st1, F1, ρ1, p1, R1, r1, h1⟩
theorem blE_of {w1 : W} {Q : Bool → Prop} {K : PySem.W.Frag} {F : Hp} {ρ : List Addr} {v : V} (h : match w1 with
  | .d (.bl b) => Q b
  | _ => False) (r : RepW K F ρ w1 v) : ∃ b, v = .bl b ∧ Q b := by
  split at h
  · rename_i b
    exact ⟨b, r, h⟩
  · exact h.elim
theorem pd_and {wa wb : DE} (ha : PD X n a wa) (hb : PD X n (.BoolOp .And (b :: rest) pos) wb) : PD X n (.BoolOp .And (a :: b :: rest) pos) (wAndV wa wb) :=
  pd_of (pe_and ha.pe hb.pe) fun σ H F ρ st Q E R tk hw => by
    refine tE.use R tk hw fun v w1 st1 H1 F1 ρ1 p1 R1 r1 h1 => ?_
    obtain ⟨c, rfl, h1⟩ := blE_of (Q := fun c => brD c (wb st1 Q E) (Q (.d (.bl false)) st1)) h1 r1
    refine ⟨c, rfl, ?_⟩
    cases c with
    | true => have h1 := brD_t h1; exact tE.use R1 tk h1 fun v w2 st2 H2 F2 ρ2 p2 R2 r2 h2 => ⟨w2, st2, F2, ρ2, p1.trans p2 R1.ok.dom, R2, r2, h2⟩
    | false => have h1 := brD_f h1; exact ⟨.d (.bl false), st1, F1, ρ1, p1, R1, rfl, h1⟩
def wIf (t : DT) (a b : DE) : DE := fun st Q E => t st (fun c st1 => brD c (a st1 Q E) (b st1 Q E)) E
theorem pd_if {wt : DT} {wa wb : DE} (ht : PTD X n c wt) (ha : PD X n a wa) (hb : PD X n b wb) : PD X n (.IfExp c a b pos) (wIf wt wa wb) :=
  pd_of (pe_ifExp ht.pt ha.pe hb.pe) fun σ H F ρ st Q E R tk hw => by
    refine tT.use R tk hw fun c st1 H1 F1 ρ1 p1 R1 h1 => ?_
    cases c with
    | true => have h1 := brD_t h1; exact tE.use R1 tk h1 fun v w2 st2 H2 F2 ρ2 p2 R2 r2 h2 => ⟨w2, st2, F2, ρ2, p1.trans p2 R1.ok.dom, R2, r2, h2⟩
    | false => have h1 := brD_f h1; exact tE.use R1 tk h1 fun v w2 st2 H2 F2 ρ2 p2 R2 r2 h2 => ⟨w2, st2, F2, ρ2, p1.trans p2 R1.ok.dom, R2, r2, h2⟩
def wChain (o o' : DOp) (wa wb wc : DE) : DE := fun st Q E => wa st (fun a st1 => wb st1 (fun b st2 => match a, b with
  | .d x, .d y => o x y fun z => match z with
    | .bl k => brD k (wc st2 (fun c st3 => match c with
        | .d w => o' y w fun z' => Q (.d z') st3
        | _ => False) E) (Q (.d (.bl false)) st2)
    | _ => False
  | _, _ => False) E) E
theorem chain_sim {r r' : R2} {o o' : DOp} {wa wb wc : DE} (s : OpS X.K r o) (s' : OpS X.K r' o') {σ : L2.St} {H F : Hp} {ρ : List Addr} {st : Dst} {Q : DQ} {E : DX} {kk : VK} (R : Rl X.K n F ρ st σ H) (tk : TkD X n E) (h : wChain o o' wa wb wc st Q E) (hk : ∀ v H', qE X n σ F ρ H Q v H' → kk v H') :
    tChain r r' (tE X n wa) (tE X n wb) (tE X n wc) σ H kk := by
  refine tE.use R tk h fun v w1 st1 H1 F1 ρ1 p1 R1 r1 h1 => ?_
  refine tE.use R1 tk h1 fun u w2 st2 H2 F2 ρ2 p2 R2 r2 h2 => ?_
  cases w1 <;> first | exact h2.elim | skip
  cases w2 <;> first | exact h2.elim | skip
  rename_i x y
  refine s F2 H2 x y v u _ _ R2.ok.sub (Rep.sub p2.le x v r1) r2 h2 fun z H' d F' g rz q => ?_
  obtain ⟨p3, R3⟩ := R2.grow g
  have p13 := (p1.trans p2 R1.ok.dom).trans p3 R2.ok.dom
  split at q
  · rename_i k
    refine ⟨k, rz, ?_⟩
    cases k with
    | false => have q := brD_f q; exact hk _ _ ⟨.d (.bl false), st2, F', ρ2, p13, R3, rfl, q⟩
    | true =>
      have q := brD_t q
      refine tE.use R3 tk q fun t w4 st4 H4 F4 ρ4 p4 R4 r4 h4 => ?_
      split at h4
      · rename_i w
        refine s' F4 H4 y w u t _ _ R4.ok.sub (Rep.sub p4.le y u (Rep.sub p3.le y u r2)) r4 h4 fun z' H5 d5 F5 g5 rz5 q5 => ?_
        obtain ⟨p5, R5⟩ := R4.grow g5
        exact hk _ _ ⟨.d d5, st4, F5, ρ4, (p13.trans p4 R3.ok.dom).trans p5 R4.ok.dom, R5, rz5, q5⟩
      · exact h4.elim
  · exact q.elim
theorem ptd_chain {op op' : CmpOp} {r r' : R2} {o o' : DOp} {wa wb wc : DE} (ho : OpR X (compareOp op) r) (ho' : OpR X (compareOp op') r') (s : OpS X.K r o) (s' : OpS X.K r' o') (ha : PD X n a wa) (hb : PD X n b wb) (hc : PD X n c wc)
    (hm : lastMarks [op, op'] [b, c] = false := by with_unfolding_all rfl) : PTD X n (.Compare a [op, op'] [b, c] pos) (wTest (wChain o o' wa wb wc)) :=
  ptd_of (pt_chain ho ho' ha.pe hb.pe hc.pe hm) fun σ H F ρ st Q E R tk hw => chain_sim s s' R tk hw fun v H' ⟨w', st', F', ρ', p, R', rw, q⟩ => by
    obtain ⟨k, rfl, q⟩ := bl_of q rw
    exact ⟨k, rfl, st', F', ρ', p, R', q⟩
end
end Dl
namespace Dl
open PySem PySem.Spec PyProof.Rows L2
variable [TheW]
section
variable {X : Cx} {n : En} {e a b c : Expr} {cs : Stmt} {rest body : List Stmt} {pos : Pos} {t u : DS} {we : DE}
theorem SPD.after {pins : List (Addr × Obj)} {F F1 : Hp} {ρ ρ1 : List Addr} {H H1 : Hp} {D : DEnds} {f : Flow} {s : Shared} (p : Post F ρ H F1 ρ1 H1) (d : ∀ c ∈ ρ1, H1 c ≠ none) (h : SPD X n pins F1 ρ1 H1 D f s) : SPD X n pins F ρ H D f s := by
  cases f with
  | next => obtain ⟨σ', H', F', ρ', st', I, q, R, z⟩ := h; exact ⟨σ', H', F', ρ', st', I, p.trans q d, R, z⟩
  | brk => obtain ⟨σ', H', F', ρ', st', I, q, R, z⟩ := h; exact ⟨σ', H', F', ρ', st', I, p.trans q d, R, z⟩
  | cont => obtain ⟨σ', H', F', ρ', st', I, q, R, z⟩ := h; exact ⟨σ', H', F', ρ', st', I, p.trans q d, R, z⟩
  | ret u => obtain ⟨v, w', σ', H', F', ρ', μ, I, r, q, p0, ok, rw, z⟩ := h; exact ⟨v, w', σ', H', F', ρ', μ, I, r, p.trans q d, p0, ok, rw, z⟩
def wNext : DS := fun D st => D.nx st
def wSeq (t u : DS) : DS := fun D st => t { D with nx := u D } st
theorem pssd_nil : PSSD X n [] wNext := ⟨fun _ _ σ H F ρ st D I R tk hw => wpAny_execs_nil ⟨σ, H, F, ρ, st, I, Post.refl _ _ _, R, hw⟩⟩
theorem pssd_cons (h1 : PSD X n cs t) (h2 : PSSD X n rest u) : PSSD X n (cs :: rest) (wSeq t u) := by
  refine ⟨fun pins s σ H F ρ st D I R tk hw => ?_⟩
  refine wpAny_execs_cons (thn (h1.run pins s σ H F ρ st { D with nx := u D } I R tk hw) fun f s1 q => ?_)
  cases f with
  | next =>
    obtain ⟨σ', H', F', ρ', st', I', p, R', z⟩ := q
    exact thn (h2.run pins s1 σ' H' F' ρ' st' D I' R' tk z) fun f s2 q2 => q2.after p R'.ok.dom
  | ret v => exact q
  | brk => exact q
  | cont => exact q
theorem pssd_one (h1 : PSD X n cs t) : PSSD X n [cs] t := by
  refine ⟨fun pins s σ H F ρ st D I R tk hw => ?_⟩
  refine wpAny_execs_cons (thn (h1.run pins s σ H F ρ st D I R tk hw) fun f s1 q => ?_)
  cases f with
  | next => exact wpAny_execs_nil q
  | ret v => exact q
  | brk => exact q
  | cont => exact q
def wNever : DS := fun _ _ => False
theorem psd_never : PSD X n cs wNever := ⟨fun _ _ _ _ _ _ _ _ _ _ _ h => h.elim⟩
theorem pssd_never : PSSD X n rest wNever := ⟨fun _ _ _ _ _ _ _ _ _ _ _ h => h.elim⟩
def wDrop (w : DE) : DS := fun D st => w st (fun _ st1 => D.nx st1) D.ex
theorem psd_expr (h : PD X n e we) (hs : swapsWith e none pos.line X.env = pure false := by rfl) : PSD X n (.Expr e pos) (wDrop we) :=
  psd_of (ps_expr h.pe hs) fun σ H F ρ st D R tk hw => tE.use R tk hw fun v w1 st1 H1 F1 ρ1 p1 R1 r1 h1 => ⟨F1, ρ1, st1, p1, R1, h1⟩
def wRet (w : DE) : DS := fun D st => w st (fun v st1 => D.rt v st1.μ) D.ex
theorem psd_ret (h : PD X n e we) : PSD X n (.Return (some e) pos) (wRet we) :=
  psd_of (ps_ret h.pe) fun σ H F ρ st D R tk hw => tE.use R tk hw fun v w1 st1 H1 F1 ρ1 p1 R1 r1 h1 => ⟨w1, F1, ρ1, st1.μ, p1, R1.po, R1.ok, r1, h1⟩
theorem tS.go {w : DS} {σ : L2.St} {H F F0 : Hp} {ρ ρ0 : List Addr} {H0 : Hp} {st : Dst} {D : DEnds} (R : Rl X.K n F ρ st σ H) (tk : TkD X n D.ex) (p : Post F0 ρ0 H0 F ρ H) (h : w D st) : tS X n w (qD X n F0 ρ0 H0 D) σ H :=
  tS.use R tk h (fun σ' H' F' ρ' st' q R' z => ⟨F', ρ', st', p.trans q R.ok.dom, R', z⟩) (fun v w' H' F' ρ' μ q p0 ok rw z => ⟨w', F', ρ', μ, p.trans q R.ok.dom, p0, ok, rw, z⟩)
    (fun σ' H' F' ρ' st' q R' z => ⟨F', ρ', st', p.trans q R.ok.dom, R', z⟩) (fun σ' H' F' ρ' st' q R' z => ⟨F', ρ', st', p.trans q R.ok.dom, R', z⟩)
def wIfS (c : DT) (t u : DS) : DS := fun D st => c st (fun b st1 => brD b (t D st1) (u D st1)) D.ex
theorem psd_if {wc : DT} {p q : List Stmt} (hc : PTD X n c wc) (ha : PSSD X n p t) (hb : PSSD X n q u) : PSD X n (.If c p q pos) (wIfS wc t u) :=
  psd_of (ps_if hc.pt ha.pss hb.pss) fun σ H F ρ st D R tk hw => by
    refine tT.use R tk hw fun b st1 H1 F1 ρ1 p1 R1 h1 => ?_
    cases b with
    | true => have h1 := brD_t h1; exact tS.go R1 tk p1 h1
    | false => have h1 := brD_f h1; exact tS.go R1 tk p1 h1
abbrev DG := W → Dst → (Dst → Prop) → DX → Prop
abbrev DGs := List D → Dst → (Dst → Prop) → DX → Prop
structure PGD (X : Cx) (n : En) (target : Expr) (g : DG) : Prop where
  run : ∀ (pins : List (Addr × Obj)) (s : Shared) (σ : L2.St) (H F : Hp) (ρ : List Addr) (st : Dst) (w : W) (v : V) (u : Value) (Q : Dst → Prop) (E : DX), Inv X pins σ H s → Rl X.K n F ρ st σ H → TkD X n E → RelV v u → RepW X.K F ρ w v → g w st Q E →
    wpAny (model X.prog X.w) X.A (assign target X.env u) (fun _ s' => ∃ σ' H' F' ρ' st', Inv X pins σ' H' s' ∧ Post F ρ H F' ρ' H' ∧ Rl X.K n F' ρ' st' σ' H' ∧ Q st') X.xe s
def tGD (X : Cx) (n : En) (g : DG) : TG := fun v σ H Q => ∃ F ρ st w DQ E, Rl X.K n F ρ st σ H ∧ TkD X n E ∧ RepW X.K F ρ w v ∧ g w st DQ E ∧ ∀ σ' H' F' ρ' st', Post F ρ H F' ρ' H' → Rl X.K n F' ρ' st' σ' H' → DQ st' → Q σ' H'
theorem PGD.pg {tg : Expr} {g : DG} (h : PGD X n tg g) : PG X tg (tGD X n g) := by
  refine ⟨fun pins s σ H v u Q I r ⟨F, ρ, st, w, DQ, E, R, tk, rw, hw, k⟩ => ?_⟩
  exact thn (h.run pins s σ H F ρ st w v u DQ E I R tk r rw hw) fun _ s1 ⟨σ', H', F', ρ', st', I', p, R', q⟩ => ⟨σ', H', I', k _ _ _ _ _ p R' q⟩
theorem pgd_of {tg : Expr} {t : TG} {g : DG} (h : PG X tg t) (sim : ∀ (σ : L2.St) (H F : Hp) (ρ : List Addr) (st : Dst) (w : W) (v : V) (Q : Dst → Prop) (E : DX), Rl X.K n F ρ st σ H → TkD X n E → RepW X.K F ρ w v → g w st Q E → t v σ H (qN X n F ρ H Q)) : PGD X n tg g := by
  refine ⟨fun pins s σ H F ρ st w v u Q E I R tk r rw hw => ?_⟩
  exact thn (h.run pins s σ H v u _ I r (sim σ H F ρ st w v Q E R tk rw hw)) fun _ s1 ⟨σ', H', I', F', ρ', st', p, R', q⟩ => ⟨σ', H', F', ρ', st', I', p, R', q⟩
theorem Rl.set {K : PySem.W.Frag} {F : Hp} {ρ : List Addr} {st : Dst} {σ : L2.St} {H : Hp} (R : Rl K n F ρ st σ H) (i : Nat) {w : W} {v : V} (r : RepW K F ρ w v) : Rl K n F ρ { st with δ := st.δ.set i (some w) } (σ.set i (some v)) H := by
  refine ⟨R.ok, R.po, by simp [R.len], fun j w' e => ?_⟩
  have e : (st.δ.set i (some w))[j]? = some (some w') := e
  by_cases hj : i = j
  · subst hj
    by_cases hi : i < st.δ.length
    · rw [List.getElem?_set_self hi] at e
      cases e
      exact ⟨v, by rw [List.getElem?_set_self (by rw [← R.len]; exact hi)], r⟩
    · rw [List.getElem?_eq_none (by simpa using hi)] at e; cases e
  · rw [List.getElem?_set_ne hj] at e
    obtain ⟨v', e', r'⟩ := R.slots j w' e
    exact ⟨v', by rw [List.getElem?_set_ne hj]; exact e', r'⟩
def gN (i : Nat) : DG := fun w st Q _ => Q { st with δ := st.δ.set i (some w) }
theorem pgd_name {i : Nat} {x : Str} (hN : X.N.Nodup) (hi : X.N[i]? = some x := by rfl) (hx : Loc X.env.scope x := by first | exact Or.inl rfl | exact Or.inr rfl) (hf : X.fn x = true ∨ X.env.scope.names.lookup x = some .local := by first | exact .inl rfl | exact .inr rfl | assumption) : PGD X n (.Name x pos) (gN i) :=
  pgd_of (pg_name hN hi hx hf) fun σ H F ρ st w v Q E R tk r hw => ⟨F, ρ, _, Post.refl _ _ _, R.set i r, hw⟩
def gsNil : DGs := fun ds st Q _ => match ds with
  | [] => Q st
  | _ => False
def gsCons (g : DG) (gs : DGs) : DGs := fun ds st Q E => match ds with
  | d :: r => g (.d d) st (fun st1 => gs r st1 Q E) E
  | [] => False
def gT (m : Nat) (gs : DGs) : DG := fun w st Q E => match w with
  | .d (.tup xs) => xs.length = m ∧ gs xs st Q E
  | _ => False
def wAsg (w : DE) (g : DG) : DS := fun D st => w st (fun v st1 => g v st1 D.nx D.ex) D.ex
theorem psd_set {i : Nat} {x : Str} {pos' : Pos} (hN : X.N.Nodup) (h : PD X n e we) (hi : X.N[i]? = some x := by rfl) (hx : Loc X.env.scope x := by first | exact Or.inl rfl | exact Or.inr rfl) (hs : swapsWith e (some (.Name x pos')) pos.line X.env = pure false := by rfl)
    (hf : X.fn x = true ∨ X.env.scope.names.lookup x = some .local := by first | exact .inl rfl | exact .inr rfl | assumption) : PSD X n (.Assign [.Name x pos'] e pos) (wAsg we (gN i)) :=
  psd_of (ps_set hN hi hx h.pe hs hf) fun σ H F ρ st D R tk hw => tE.use R tk hw fun v w1 st1 H1 F1 ρ1 p1 R1 r1 h1 => ⟨F1, ρ1, _, p1, R1.set i r1, h1⟩
theorem psd_asg {tg : Expr} {g : DG} (he : PD X n e we) (hg : PGD X n tg g) (hs : swapsWithSole [tg] e pos.line X.env = pure false := by rfl) (hw : swappedStores [tg] e X.env = pure none := by rfl)
    (h1 : (assignEach [tg] X.env).map (·.2) = [assign tg X.env] := by rfl) : PSD X n (.Assign [tg] e pos) (wAsg we g) :=
  psd_of (ps_asg he.pe hg.pg hs hw h1) fun σ H F ρ st D R tk hw => tE.use R tk hw fun v w1 st1 H1 F1 ρ1 p1 R1 r1 h1 =>
    ⟨F1, ρ1, st1, w1, _, _, R1, tk, r1, h1, fun σ' H' F' ρ' st' q R' z => ⟨F', ρ', st', p1.trans q R1.ok.dom, R', z⟩⟩
end
end Dl
namespace Dl
open PySem PySem.Spec PyProof.Rows L2
variable [TheW]
section
variable {X : Cx} {n : En} {e a b c tg : Expr} {cs : Stmt} {rest body : List Stmt} {pos : Pos} {t u : DS} {we : DE}
def wPar (i j : Nat) (wa : DA) : DS := fun D st => wa st (fun ws st1 => match ws with
  | [v, w] => D.nx { st1 with δ := (st1.δ.set i (some v)).set j (some w) }
  | _ => False) D.ex
theorem psd_par {i j : Nat} {x y : Str} {wa : DA} {px py pt : Pos} {kt k2 pt2} (hc : X.calm = true) (hN : X.N.Nodup) (ha : PAD X n [a, b] wa) (hi : X.N[i]? = some x := by rfl) (hj : X.N[j]? = some y := by rfl) (hij : i ≠ j := by decide)
    (hx : X.env.scope.names.lookup x = some .local := by rfl) (hy : X.env.scope.names.lookup y = some .local := by rfl)
    (hw : swappedStores [.Tuple [.Name x px, .Name y py] kt pt] (.Tuple [a, b] k2 pt2) X.env = pure (some [x, y]) := by rfl)
    (hs : swapsWithSole [.Tuple [.Name x px, .Name y py] kt pt] (.Tuple [a, b] k2 pt2) pos.line X.env = pure false := by rfl) :
    PSD X n (.Assign [.Tuple [.Name x px, .Name y py] kt pt] (.Tuple [a, b] k2 pt2) pos) (wPar i j wa) :=
  psd_of (ps_par hc hN hi hj hij hx hy ha.pa hw hs) fun σ H F ρ st D R tk hw => by
    refine tA.use R tk hw fun vs ws st1 H1 F1 ρ1 p1 R1 r1 h1 => ?_
    split at h1
    · rename_i w1 w2
      obtain ⟨v1, r, rfl, q1, v2, r', rfl, q2, rfl⟩ := r1
      exact ⟨v1, v2, rfl, F1, ρ1, _, p1, (R1.set i q1).set j q2, h1⟩
    · exact h1.elim
structure ItD (K : PySem.W.Frag) (F0 : Hp) (J : It) (xs : List D) : Prop where
  go : ∀ (i : Nat) (F H : Hp), SubH F0 F → SubH F H → i < xs.length → J.go i H
  yld : ∀ (i : Nat) (F H : Hp) (x : V) (H' : Hp), SubH F0 F → SubH F H → i < xs.length → J.yld i H x H' → ∃ d F', xs[i]? = some d ∧ Grow F H F' H' ∧ Rep K F' d x
  stop : ∀ (i : Nat) (F H : Hp), SubH F0 F → SubH F H → xs.length ≤ i → J.stop i H
abbrev DI := Dst → (List D → Dst → Prop) → DX → Prop
structure PID (X : Cx) (n : En) (tg iter : Expr) (w : DI) : Prop where
  run : ∀ (pins : List (Addr × Obj)) (s : Shared) (σ : L2.St) (H F : Hp) (ρ : List Addr) (st : Dst) (Q : List D → Dst → Prop) (E : DX), Inv X pins σ H s → Rl X.K n F ρ st σ H → TkD X n E → w st Q E →
    wpAny (model X.prog X.w) X.A (eval iter X.env) (fun v s1 => wpAny (model X.prog X.w) X.A (pyIter v) (PIE X pins σ tg fun J H' => ∃ xs st' F' ρ', Post F ρ H F' ρ' H' ∧ Rl X.K n F' ρ' st' σ H' ∧ ItD X.K F' J xs ∧ Q xs st') X.xe s1) X.xe s
def tID (X : Cx) (n : En) (w : DI) : TI := fun σ H R0 => ∃ F ρ st DQ E, Rl X.K n F ρ st σ H ∧ TkD X n E ∧ w st DQ E ∧ ∀ J xs st' H' F' ρ', Post F ρ H F' ρ' H' → Rl X.K n F' ρ' st' σ H' → ItD X.K F' J xs → DQ xs st' → R0 J H'
theorem PID.pi {iter : Expr} {w : DI} (h : PID X n tg iter w) : PI X tg iter (tID X n w) := by
  refine ⟨fun pins s σ H R0 I ⟨F, ρ, st, DQ, E, R, tk, hw, k⟩ => ?_⟩
  refine thn (h.run pins s σ H F ρ st DQ E I R tk hw) fun v s1 q => thn q fun itv s2 ⟨it, fp, tn, J, H', e, I', T, st2, f2, xs, st', F', ρ', p, R', it', q⟩ => ?_
  exact ⟨it, fp, tn, J, H', e, I', T, st2, f2, k J xs st' H' F' ρ' p R' it' q⟩
theorem pid_of {iter : Expr} {wi : TI} {w : DI} (h : PI X tg iter wi) (sim : ∀ (σ : L2.St) (H F : Hp) (ρ : List Addr) (st : Dst) (Q : List D → Dst → Prop) (E : DX), Rl X.K n F ρ st σ H → TkD X n E → w st Q E →
    wi σ H fun J H' => ∃ xs st' F' ρ', Post F ρ H F' ρ' H' ∧ Rl X.K n F' ρ' st' σ H' ∧ ItD X.K F' J xs ∧ Q xs st') : PID X n tg iter w :=
  ⟨fun pins s σ H F ρ st Q E I R tk hw => h.run pins s σ H _ I (sim σ H F ρ st Q E R tk hw)⟩
def items : D → Option (List D)
  | .lst xs => some xs
  | .tup xs => some xs
  | .str x => some (x.map fun c => .str [c])
  | _ => none
theorem itd_list {K : PySem.W.Frag} {F0 : Hp} {p : Addr} {vs : List V} {xs : List D} (h : F0 p = some (.lst vs)) (r : RepL K F0 xs vs) : ItD K F0 (Itl K p) xs where
  go := fun i F H s1 s2 hi => by
    obtain ⟨v, e, _⟩ := r.get (i := i) (d := xs[i]) (by simp [hi])
    exact ⟨vs, v, .of (s2 _ _ (s1 _ _ h)), e⟩
  yld := fun i F H x H' s1 s2 hi y => by
    obtain ⟨rfl, y⟩ := y
    obtain ⟨d, e, q⟩ := r.getV (y vs (.of (s2 _ _ (s1 _ _ h))))
    exact ⟨d, F, e, .refl _ _, Rep.sub s1 _ _ q⟩
  stop := fun i F H s1 s2 hi => ⟨vs, .of (s2 _ _ (s1 _ _ h)), by rw [← r.len]; exact hi⟩
theorem itd_tup {K : PySem.W.Frag} {F0 : Hp} {p : Addr} {vs : List V} {xs : List D} (h : TupAt K F0 p vs) (r : RepL K F0 xs vs) : ItD K F0 (Itt K p) xs where
  go := fun i F H s1 s2 hi => by
    obtain ⟨v, e, _⟩ := r.get (i := i) (d := xs[i]) (by simp [hi])
    exact ⟨vs, v, (h.sub s1).sq s2, e⟩
  yld := fun i F H x H' s1 s2 hi y => by
    obtain ⟨rfl, y⟩ := y
    obtain ⟨d, e, q⟩ := r.getV (y vs ((h.sub s1).sq s2))
    exact ⟨d, F, e, .refl _ _, Rep.sub s1 _ _ q⟩
  stop := fun i F H s1 s2 hi => ⟨vs, (h.sub s1).sq s2, by rw [← r.len]; exact hi⟩
theorem itd_str {K : PySem.W.Frag} {F0 : Hp} {x : List Nat} : ItD K F0 (Its (mkS x)) (x.map fun c => .str [c]) where
  go := fun i F H s1 s2 hi => by
    show i < (mkS x).cps.size
    simpa [mkS] using hi
  yld := fun i F H v H' s1 s2 hi y => by
    obtain ⟨rfl, c, e, rfl⟩ := y
    refine ⟨.str [c], F, ?_, .refl _ _, rfl⟩
    have e : x[i]? = some c := by simpa [mkS] using e
    rw [List.getElem?_map, e]; rfl
  stop := fun i F H s1 s2 hi => by
    show (mkS x).cps.size ≤ i
    simpa [mkS] using hi
def wIt (w : DE) : DI := fun st Q E => w st (fun v st1 => match v with
  | .d x => match items x with
    | some xs => Q xs st1
    | none => False
  | _ => False) E
theorem pid_any (h : PD X n e we) : PID X n tg e (wIt we) := by
  refine ⟨fun pins s σ H F ρ st Q E I R tk hw => ?_⟩
  refine thn (h.run pins s σ H F ρ st _ E I R tk hw) fun u s1 ⟨v, w1, st1, H1, F1, ρ1, I1, r, p1, R1, r1, h1⟩ => ?_
  dsimp only at h1
  split at h1
  · rename_i x
    split at h1
    · rename_i xs ex
      cases x <;> first | (cases ex; done) | skip
      · cases ex
        rename_i x
        obtain rfl := (show v = .str (mkS x) from r1)
        obtain ⟨t, rfl⟩ := r
        cases ha : (mkS x).cps.all (· < 128)
        · exact wpAny_pyIter_wide ha (pi_one (tk := s1.toks) I1 _ (turn_str _ _ t "str_iterator" (.inr rfl)) ⟨_, Heap.get?_push_size _ rfl, rfl, rfl⟩ ⟨_, st1, F1, ρ1, p1, R1, itd_str, h1⟩)
        · exact wpAny_pyIter_ascii ha (pi_one (tk := s1.toks) I1 _ (turn_str _ _ t "str_ascii_iterator" (.inl rfl)) ⟨_, Heap.get?_push_size _ rfl, rfl, rfl⟩ ⟨_, st1, F1, ρ1, p1, R1, itd_str, h1⟩)
      · cases ex
        have r1 : Rep X.K F1 (.tup xs) v := r1
        unfold Rep at r1
        obtain ⟨p, vs, rfl, e1, q⟩ := r1
        cases r
        obtain ⟨its, rv, pp, hz⟩ := I1.tuple (e1.sq R1.ok.sub)
        refine wpAny_pyIter_tuple (show s1.heap.IsTuple p its.toArray from pp) ?_
        refine ⟨s1.heap.objs.size, [s1.heap.objs.size], _, _, H1, rfl, I1.kept (t' := s1.toks) fun b o e => Heap.get?_push_of_some _ e, turn_tuple p _, ⟨_, Heap.get?_push_size _ rfl, rfl, rfl⟩, fun b hb => ?_, xs, st1, F1, ρ1, p1, R1, itd_tup e1 q, h1⟩
        have e : b = s1.heap.objs.size := by simpa using hb
        subst e
        exact I1.fpOk (Nat.le_refl _) (I1.hok.fresh (Nat.le_refl _))
      · cases ex
        have r1 : Rep X.K F1 (.lst xs) v := r1
        unfold Rep at r1
        obtain ⟨p, vs, rfl, e1, q⟩ := r1
        cases r
        obtain ⟨its, rv, pp, hz⟩ := I1.list (.of (R1.ok.sub _ _ e1))
        refine wpAny_pyIter_list pp.isList ?_
        refine ⟨s1.heap.objs.size, [s1.heap.objs.size], _, _, H1, rfl, I1.kept (t' := s1.toks) fun b o e => Heap.get?_push_of_some _ e, turn_list p _, ⟨_, Heap.get?_push_size _ rfl, rfl, rfl⟩, fun b hb => ?_, xs, st1, F1, ρ1, p1, R1, itd_list e1 q, h1⟩
        have e : b = s1.heap.objs.size := by simpa using hb
        subst e
        exact I1.fpOk (Nat.le_refl _) (I1.hok.fresh (Nat.le_refl _))
    · exact h1.elim
  · exact h1.elim
def rangeD (lo hi : Int) : List D := (List.range (hi - lo).toNat).map fun (k : Nat) => .int (lo + k)
def wRng1 (wa : DA) : DI := fun st Q E => wa st (fun ws st1 => match ws with
  | [.d (.int j)] => (-(2 ^ 62) ≤ j ∧ j < 2 ^ 62) ∧ Q (rangeD 0 j) st1
  | _ => False) E
theorem itd_range {K : PySem.W.Frag} {F0 : Hp} {lo hi : Int} : ItD K F0 (Itr lo (hi - lo).toNat) (rangeD lo hi) where
  go := fun i F H s1 s2 h => by
    show i < (hi - lo).toNat
    simpa only [rangeD, List.length_map, List.length_range] using h
  yld := fun i F H x H' s1 s2 h y => by
    obtain ⟨rfl, rfl⟩ := y
    have h : i < (hi - lo).toNat := by simpa only [rangeD, List.length_map, List.length_range] using h
    exact ⟨.int (lo + i), F, by unfold rangeD; rw [List.getElem?_map, List.getElem?_range h]; rfl, .refl _ _, rfl⟩
  stop := fun i F H s1 s2 h => by
    show (hi - lo).toNat ≤ i
    simpa only [rangeD, List.length_map, List.length_range] using h
theorem pid_range1 {wa : DA} {p : Pos} (hg : Gl X "range") (hm : X.mg "range" = none) (ha : PAD X n [a] wa) (hs : starEach [a] X.env = [(false, eval a X.env)] := by rfl) : PID X n tg (.Call (.Name "range" p) [a] [] pos) (wRng1 wa) :=
  pid_of (pi_range1 hg hm ha.pa hs) fun σ H F ρ st Q E R tk hw => by
    refine tA.use R tk hw fun vs ws st1 H1 F1 ρ1 p1 R1 r1 h1 => ?_
    split at h1
    · rename_i j
      obtain ⟨v, r, rfl, q, rfl⟩ := r1
      obtain rfl := (show v = .int j from q)
      have e : Itr 0 j.toNat = Itr 0 (j - 0).toNat := by rw [Int.sub_zero]
      exact ⟨j, rfl, h1.1.1, h1.1.2, _, st1, F1, ρ1, p1, R1, by rw [e]; exact itd_range, h1.2⟩
    · exact h1.elim
def wForL (g : DG) (tb : DS) (B : DEnds) : List D → Dst → Prop
  | [], st => B.nx st
  | x :: xs, st => g (.d x) st (fun st1 => tb { B with nx := wForL g tb B xs, ct := wForL g tb B xs, bk := B.nx } st1) B.ex
structure forP (g : DG) (tb : DS) (B : DEnds) (xs : List D) (st : Dst) : Prop where
  run : wForL g tb B xs st
def wFor (wi : DI) (g : DG) (tb : DS) : DS := fun D st => wi st (fun xs st1 => forP g tb D xs st1) D.ex
theorem psd_for {iter : Expr} {wi : DI} {g : DG} (hp : PassesOwn (model X.prog X.w) X.A X.env X.xe) (hc : X.calm = true) (hi : PID X n tg iter wi) (hg : PGD X n tg g) (hb : PSSD X n body t)
    (hs : ∀ x, foldedSetIterable iter X.env x = pure x := by intro _; rfl) : PSD X n (.For tg iter body [] pos) (wFor wi g t) :=
  psd_of (ps_for hp hc hi.pi hg.pg hb.pss hs) fun σ H F ρ st D R tk hw => by
    refine ⟨F, ρ, st, _, _, R, tk, hw, fun J xs st1 H1 F1 ρ1 p1 R1 it h1 => ?_⟩
    have h1 := h1.run
    refine ⟨fun i m σ' H' => m = xs.length - i ∧ i ≤ xs.length ∧ ∃ F' ρ' st', Post F1 ρ1 H1 F' ρ' H' ∧ Rl X.K n F' ρ' st' σ' H' ∧ wForL g t D (xs.drop i) st', ⟨xs.length, by simp, Nat.zero_le _, F1, ρ1, st1, Post.refl _ _ _, R1, h1⟩, ?_⟩
    rintro i m σ2 H2 ⟨rfl, hi, F2, ρ2, st2, p2, R2, h2⟩
    have p12 := p1.trans p2 R1.ok.dom
    by_cases hlt : i < xs.length
    · refine .inr ⟨it.go i F2 H2 p2.le R2.ok.sub hlt, fun σ' H' => i + 1 ≤ xs.length ∧ ∃ F' ρ' st', Post F1 ρ1 H1 F' ρ' H' ∧ Rl X.K n F' ρ' st' σ' H' ∧ wForL g t D (xs.drop (i + 1)) st', fun σ' H' ⟨l, q⟩ => ⟨xs.length - (i + 1), by omega, rfl, l, q⟩, fun x H' y => ?_⟩
      obtain ⟨d, F3, ed, gr, rd⟩ := it.yld i F2 H2 x H' p2.le R2.ok.sub hlt y
      obtain ⟨p3, R3⟩ := R2.grow gr
      have ed : xs[i] = d := by rw [List.getElem?_eq_getElem hlt] at ed; exact Option.some.inj ed
      have edr : xs.drop i = d :: xs.drop (i + 1) := by rw [List.drop_eq_getElem_cons hlt, ed]
      rw [edr] at h2
      have p13 := p2.trans p3 R2.ok.dom
      refine ⟨F3, ρ2, st2, .d d, _, _, R3, tk, rd, h2, fun σ4 H4 F4 ρ4 st4 p4 R4 h4 => ?_⟩
      have p14 := p13.trans p4 R3.ok.dom
      have p04 := p1.trans p14 R1.ok.dom
      refine tS.use R4 (by exact tk) h4 (fun σ' H' F' ρ' st' q R' z => ?_) (fun v w' H' F' ρ' μ q p0 ok rw z => ⟨w', F', ρ', μ, p04.trans q R4.ok.dom, p0, ok, rw, z⟩) (fun σ' H' F' ρ' st' q R' z => ⟨F', ρ', st', p04.trans q R4.ok.dom, R', z⟩) (fun σ' H' F' ρ' st' q R' z => ?_)
      · exact ⟨hlt, F', ρ', st', p14.trans q R4.ok.dom, R', z⟩
      · exact ⟨hlt, F', ρ', st', p14.trans q R4.ok.dom, R', z⟩
    · have e : i = xs.length := by omega
      subst e
      rw [List.drop_length] at h2
      exact .inl ⟨it.stop _ F2 H2 p2.le R2.ok.sub (Nat.le_refl _), F2, ρ2, st2, p12, R2, h2⟩
end
end Dl
namespace Dl
open PySem PySem.Spec PyProof.Rows L2
variable [TheW]
structure PGW (X : Cx) (n : En) (target : Expr) (vs : List Nat) (g : DG) : Prop where
  run : ∀ (pins : List (Addr × Obj)) (s : Shared) (σ : L2.St) (H F : Hp) (ρ : List Addr) (st : Dst) (w : W) (v : V) (u : Value) (Q : Dst → Prop) (E : DX), Inv X pins σ H s → Rl X.K n F ρ st σ H → TkD X n E → RelV v u → RepW X.K F ρ w v → g w st Q E →
    wpAny (model X.prog X.w) X.A (assign target X.env u) (fun _ s' => ∃ σ' H' F' ρ' st', Inv X pins σ' H' s' ∧ Post F ρ H F' ρ' H' ∧ Rl X.K n F' ρ' st' σ' H' ∧ Q st' ∧ σ'.length = σ.length ∧ ∀ j, j ∉ vs → σ'[j]? = σ[j]?) X.xe s
def tGW (X : Cx) (n : En) (vs : List Nat) (g : DG) : TG := fun v σ H Q => ∃ F ρ st w DQ E, Rl X.K n F ρ st σ H ∧ TkD X n E ∧ RepW X.K F ρ w v ∧ g w st DQ E ∧ ∀ σ' H' F' ρ' st', Post F ρ H F' ρ' H' → Rl X.K n F' ρ' st' σ' H' → DQ st' → σ'.length = σ.length → (∀ j, j ∉ vs → σ'[j]? = σ[j]?) → Q σ' H'
section
variable {X : Cx} {n : En} {e a b c tg : Expr} {pos : Pos} {vs : List Nat} {g : DG}
theorem PGW.pg (h : PGW X n tg vs g) : PG X tg (tGW X n vs g) := by
  refine ⟨fun pins s σ H v u Q I r ⟨F, ρ, st, w, DQ, E, R, tk, rw, hw, k⟩ => ?_⟩
  exact thn (h.run pins s σ H F ρ st w v u DQ E I R tk r rw hw) fun _ s1 ⟨σ', H', F', ρ', st', I', p, R', q, l, z⟩ => ⟨σ', H', I', k _ _ _ _ _ p R' q l z⟩
theorem pgw_name {i : Nat} {x : Str} (hN : X.N.Nodup) (hv : i ∈ vs := by decide) (hi : X.N[i]? = some x := by rfl) (hx : Loc X.env.scope x := by first | exact Or.inl rfl | exact Or.inr rfl) (hf : X.fn x = true ∨ X.env.scope.names.lookup x = some .local := by first | exact .inl rfl | exact .inr rfl | assumption) : PGW X n (.Name x pos) vs (gN i) := by
  refine ⟨fun pins s σ H F ρ st w v u Q E I R tk r rw hw => ?_⟩
  refine thn ((pg_name (pos := pos) hN hi hx hf).run pins s σ H v u (fun σ' H' => σ' = σ.set i (some v) ∧ H' = H) I r ⟨rfl, rfl⟩) fun _ s1 ⟨σ', H', I', e1, e2⟩ => ?_
  subst e1 e2
  exact ⟨_, _, F, ρ, _, I', Post.refl _ _ _, R.set i rw, hw, by simp, fun j hj => by rw [List.getElem?_set_ne (fun z : i = j => hj (by rw [← z]; exact hv))]⟩
structure PGsW (X : Cx) (n : En) (ts : List Expr) (vs : List Nat) (g : DGs) : Prop where
  run : ∀ (pins : List (Addr × Obj)) (s : Shared) (σ : L2.St) (H F : Hp) (ρ : List Addr) (st : Dst) (ds : List D) (xs : List V) (us : List Value) (Q : Dst → Prop) (E : DX), Inv X pins σ H s → Rl X.K n F ρ st σ H → TkD X n E → Vals xs us → RepL X.K F ds xs → g ds st Q E →
    wpAny (model X.prog X.w) X.A (assignInOrder ((assignEach ts X.env).map (·.2)) us) (fun _ s' => ∃ σ' H' F' ρ' st', Inv X pins σ' H' s' ∧ Post F ρ H F' ρ' H' ∧ Rl X.K n F' ρ' st' σ' H' ∧ Q st' ∧ σ'.length = σ.length ∧ ∀ j, j ∉ vs → σ'[j]? = σ[j]?) X.xe s
theorem pgsw_nil : PGsW X n [] vs gsNil := by
  refine ⟨fun pins s σ H F ρ st ds xs us Q E I R tk r rw hw => ?_⟩
  cases ds with
  | cons _ _ => exact hw.elim
  | nil =>
    unfold RepL at rw; subst rw
    cases r
    exact assignInOrder_nil ⟨σ, H, F, ρ, st, I, Post.refl _ _ _, R, hw, rfl, fun _ _ => rfl⟩
theorem pgsw_cons {es : List Expr} {gs : DGs} (h1 : PGW X n e vs g) (h2 : PGsW X n es vs gs)
    (hs : (assignEach (e :: es) X.env).map (·.2) = assign e X.env :: (assignEach es X.env).map (·.2) := by rfl) : PGsW X n (e :: es) vs (gsCons g gs) := by
  refine ⟨fun pins s σ H F ρ st ds xs us Q E I R tk r rw hw => ?_⟩
  cases ds with
  | nil => exact hw.elim
  | cons d ds =>
    unfold RepL at rw
    obtain ⟨v, vr, rfl, r1, r2⟩ := rw
    cases r with
    | cons rv rr =>
      rw [hs]
      refine assignInOrder_cons (thn (h1.run pins s σ H F ρ st (.d d) v _ _ E I R tk rv r1 hw) fun _ s1 ⟨σ1, H1, F1, ρ1, st1, I1, p1, R1, q1, l1, z1⟩ => ?_)
      exact thn (h2.run pins s1 σ1 H1 F1 ρ1 st1 ds vr _ Q E I1 R1 tk rr (RepL.sub p1.le _ _ r2) q1) fun _ s2 ⟨σ2, H2, F2, ρ2, st2, I2, p2, R2, q2, l2, z2⟩ => ⟨σ2, H2, F2, ρ2, st2, I2, p1.trans p2 R1.ok.dom, R2, q2, l2.trans l1, fun j hj => (z2 j hj).trans (z1 j hj)⟩
theorem pgw_tup {es : List Expr} {k m : Nat} {gs : DGs} (hc : X.calm = true) (h : PGsW X n es vs gs)
    (hn : (assignEach es X.env).length = m := by rfl) (hst : (assignEach es X.env).findIdx? (·.1) = none := by rfl) : PGW X n (.Tuple es k pos) vs (gT m gs) := by
  refine ⟨fun pins s σ H F ρ st w v u Q E I R tk r rw hw => ?_⟩
  unfold gT at hw
  split at hw
  · rename_i xs
    obtain ⟨hl, hw⟩ := hw
    have rw : Rep X.K F (.tup xs) v := rw
    unfold Rep at rw
    obtain ⟨p, us, rfl, e1, q⟩ := rw
    cases r
    obtain ⟨its, rv, ht, hz⟩ := I.tuple (e1.sq R.ok.sub)
    refine assign_Tuple_tuple (I.ok.hd hc) ht (by simp [hn, ← hl, ← rv.length, q.len]) hst fun h' hx => ?_
    have I1 : Inv X pins σ H { s with heap := h' } := I.kept (t' := s.toks) fun b o e => hx b o (Nat.ne_of_lt (Heap.lt_size e)) e
    exact h.run pins _ σ H F ρ st xs us _ Q E I1 R tk (by simpa using rv) q hw
  · exact hw.elim
end
def wipeD (δ : List (Option W)) : List Nat → List (Option W)
  | [] => δ
  | v :: vs => (wipeD δ vs).set v none
theorem wipeD_len (δ : List (Option W)) : ∀ vs, (wipeD δ vs).length = δ.length
  | [] => rfl
  | v :: vs => by unfold wipeD; rw [List.length_set, wipeD_len δ vs]
theorem wipeD_some {δ : List (Option W)} {i : Nat} {w : W} : ∀ {vs : List Nat}, (wipeD δ vs)[i]? = some (some w) → δ[i]? = some (some w) ∧ i ∉ vs
  | [], h => ⟨h, by simp⟩
  | v :: vs, h => by
    unfold wipeD at h
    by_cases hi : v = i
    · subst hi
      by_cases hv : v < (wipeD δ vs).length
      · rw [List.getElem?_set_self hv] at h; cases h
      · rw [List.getElem?_eq_none (by simpa using hv)] at h; cases h
    · rw [List.getElem?_set_ne hi] at h
      obtain ⟨h1, h2⟩ := wipeD_some h
      exact ⟨h1, by simp only [List.mem_cons, not_or]; exact ⟨fun e => hi e.symm, h2⟩⟩
theorem wipe_at {σ : L2.St} {i : Nat} : ∀ {vs : List Nat}, i ∉ vs → (wipe σ vs)[i]? = σ[i]?
  | [], _ => rfl
  | v :: vs, h => by
    unfold wipe
    rw [List.getElem?_set_ne (fun e => h (by rw [e]; exact List.mem_cons_self)), wipe_at fun z => h (List.mem_cons_of_mem _ z)]
theorem wipe_in {σ : L2.St} {i : Nat} : ∀ {vs : List Nat}, i ∈ vs → i < σ.length → (wipe σ vs)[i]? = some none
  | v :: vs, h, hl => by
    unfold wipe
    by_cases e : v = i
    · subst e
      rw [List.getElem?_set_self (by rw [wipe_length]; exact hl)]
    · rw [List.getElem?_set_ne e]
      exact wipe_in ((List.mem_cons.mp h).resolve_left fun z => e z.symm) hl
theorem wipe_eq {σ σ' : L2.St} {vs : List Nat} (l : σ'.length = σ.length) (h : ∀ j, j ∉ vs → σ'[j]? = σ[j]?) : wipe σ' vs = wipe σ vs := by
  refine List.ext_getElem? fun i => ?_
  by_cases hi : i ∈ vs
  · by_cases hl : i < σ.length
    · rw [wipe_in hi hl, wipe_in hi (by rw [l]; exact hl)]
    · rw [List.getElem?_eq_none (by rw [wipe_length, l]; omega), List.getElem?_eq_none (by rw [wipe_length]; omega)]
  · rw [wipe_at hi, wipe_at hi, h i hi]
theorem wipe_wipe {σ : L2.St} (vs : List Nat) : wipe (wipe σ vs) vs = wipe σ vs := wipe_eq (wipe_length σ vs) fun j hj => wipe_at hj
section
variable {K : PySem.W.Frag} {n : En} {F F1 : Hp} {ρ ρ1 : List Addr} {st : Dst} {σ : L2.St} {H H1 : Hp} {μ : List O}
theorem Rl.wipe (R : Rl K n F ρ st σ H) (vs : List Nat) : Rl K n F ρ ⟨wipeD st.δ vs, st.μ⟩ (L2.wipe σ vs) H :=
  ⟨R.ok, R.po, by show (wipeD st.δ vs).length = _; rw [wipeD_len, wipe_length, R.len], fun i w e => by
    obtain ⟨h1, h2⟩ := wipeD_some e
    obtain ⟨v, h3, h4⟩ := R.slots i w h1
    exact ⟨v, by rw [wipe_at h2]; exact h3, h4⟩⟩
theorem Post.own (p : Post F ρ H F1 ρ1 H1) {a : Addr} {o : HO} (f : F a = none) (h : H a = some o) (r : a ∉ ρ) (nt : ∀ ps, o ≠ .tbl ps := by intro _ z; cases z) : F1 a = none ∧ H1 a = some o ∧ a ∉ ρ1 := by
  refine ⟨?_, p.keep a o h r nt, fun z => ?_⟩
  · cases q : F1 a with
    | none => rfl
    | some u =>
      rcases p.new a (by rw [q]; simp) with z | z | z
      · exact absurd f z
      · rw [z] at h; cases h
      · exact absurd z r
  · rw [p.fresh a z r] at h; cases h
theorem Post.wrote {F0 H0 : Hp} {ρ0 : List Addr} (p : Post F0 ρ0 H0 F ρ H) {a : Addr} {o : HO} (h0 : H0 a = none) : Post F0 ρ0 H0 F ρ (L2.upd H a o) :=
  ⟨p.le, p.pre, p.new, fun b u e r => by rw [upd_ne (ne_of_none e h0)]; exact p.keepT b u e r, p.fresh⟩
theorem StOk.wrote (s : StOk K F ρ μ H) {a : Addr} {o : HO} (f : F a = none) (r : a ∉ ρ) (nt : ∀ ps, H a ≠ some (.tbl ps)) : StOk K F ρ μ (L2.upd H a o) := by
  have ne : ∀ b, b ∈ ρ → b ≠ a := fun b hb e => r (e ▸ hb)
  refine ⟨fun b u e => by rw [upd_ne (ne_of_none e f)]; exact s.sub b u e, s.len, s.nd, fun b hb => by rw [upd_ne (ne b hb)]; exact s.dom b hb, fun i b u e1 e2 => ?_, s.tabs.ext (SubH.refl _) fun b ps f e => ?_, fun b hb ps => by rw [upd_ne (ne b hb)]; exact s.notab b hb ps⟩
  · exact (s.obj i b u e1 e2).mono (SubH.refl _) (fun z => z) fun w e => by rw [upd_ne (ne b (List.mem_of_getElem? e1))]; exact e
  · rw [upd_ne (fun z : b = a => nt ps (by rw [← z]; exact e))]; exact ⟨f, e⟩
theorem Post.froze {F0 H0 : Hp} {ρ0 : List Addr} (p : Post F0 ρ0 H0 F ρ H) {a : Addr} {o : HO} (h0 : H0 a = none) (f : F a = none) : Post F0 ρ0 H0 (L2.upd F a o) ρ H :=
  ⟨fun b u e => by
    have := p.le b u e
    rw [upd_ne (ne_of_none this f)]; exact this, p.pre, fun b e => by
    by_cases z : b = a
    · subst z; exact .inr (.inl h0)
    · rw [upd_ne z] at e; exact p.new b e, p.keepT, p.fresh⟩
theorem StOk.froze (s : StOk K F ρ μ H) {a : Addr} {o : HO} (f : F a = none) (h : H a = some o) (r : a ∉ ρ) (nt : ∀ ps, o ≠ .tbl ps := by intro _ z; cases z) : StOk K (L2.upd F a o) ρ μ H := by
  have ne : ∀ b, b ∈ ρ → b ≠ a := fun b hb e => r (e ▸ hb)
  have sub : SubH F (L2.upd F a o) := fun b u e => by rw [upd_ne (ne_of_none e f)]; exact e
  refine ⟨fun b u e => ?_, s.len, s.nd, s.dom, fun i b u e1 e2 => ?_, s.tabs.ext sub fun b ps f e => ?_, s.notab⟩
  · by_cases z : b = a
    · subst z; rw [upd_same] at e; cases e; exact h
    · rw [upd_ne z] at e; exact s.sub b u e
  · exact (s.obj i b u e1 e2).mono sub (fun z => by rw [upd_ne (ne b (List.mem_of_getElem? e1))]; exact z) fun w e => e
  · rw [upd_ne (fun z => by rw [z, h] at e; cases e; exact nt ps rfl)]; exact ⟨f, e⟩
theorem Grow.keep (g : Grow F H F1 H1) {a : Addr} {o : HO} (f : F a = none) (h : H a = some o) : F1 a = none ∧ H1 a = some o := by
  induction g with
  | refl => exact ⟨f, h⟩
  | @lay F H F' H' p u hp g ih =>
    have ne : a ≠ p := ne_of_none h hp
    exact ih (by rw [upd_ne ne]; exact f) (by rw [upd_ne ne]; exact h)
end
def wLcL (g : DG) (tt : DT) (te : DE) (δ : List (Option W)) (Q : List D → List O → Prop) : List D → List D → List O → Prop
  | [], acc, μ => Q acc μ
  | x :: xs, acc, μ => g (.d x) ⟨δ, μ⟩ (fun st2 => tt st2 (fun b st3 => brD b (te st3 (fun y st4 => match y with
      | .d d => acc.length < 16777216 ∧ wLcL g tt te δ Q xs (acc ++ [d]) st4.μ
      | _ => False) (fun _ _ => False)) (wLcL g tt te δ Q xs acc st3.μ)) (fun _ _ => False)) (fun _ _ => False)
structure lcP (g : DG) (tt : DT) (te : DE) (δ : List (Option W)) (Q : List D → List O → Prop) (xs acc : List D) (μ : List O) : Prop where
  run : wLcL g tt te δ Q xs acc μ
def wLc (wi : DI) (g : DG) (tt : DT) (te : DE) (vs : List Nat) : DE := fun st Q E => wi st (fun xs st1 => lcP g tt te (wipeD st1.δ vs) (fun acc μ => Q (.d (.lst acc)) { st1 with μ := μ }) xs [] st1.μ) E
structure PTsD (X : Cx) (n : En) (ifs : List Expr) (w : DT) : Prop where
  run : ∀ (pins : List (Addr × Obj)) (s : Shared) (σ : L2.St) (H F : Hp) (ρ : List Addr) (st : Dst) (Q : Bool → Dst → Prop) (E : DX), Inv X pins σ H s → Rl X.K n F ρ st σ H → TkD X n E → w st Q E →
    wpAny (model X.prog X.w) X.A (forIn ifs true fun c r => if r = true then do let ok ← isTrue c X.env (eval c X.env); pure (ForInStep.yield ok) else pure (ForInStep.yield r)) (TPD X n pins σ F ρ H Q) X.xe s
def wYes : DT := fun st Q _ => Q true st
section
variable {X : Cx} {n : En} {e a b c tg : Expr} {pos : Pos} {vs : List Nat} {g : DG}
theorem ptsd_nil : PTsD X n [] wYes := ⟨fun pins s σ H F ρ st Q E I R tk hw => wpAny_tests_nil ⟨st, H, F, ρ, I, Post.refl _ _ _, R, hw⟩⟩
theorem ptsd_one {w : DT} (h : PTD X n c w) : PTsD X n [c] w := ⟨fun pins s σ H F ρ st Q E I R tk hw => wpAny_tests_one (h.run pins s σ H F ρ st Q E I R tk hw)⟩
theorem takes_no {X : Cx} {n : En} (h : X.xe = fun _ _ => False) : TkD X n (fun _ _ => False) := fun u s' x => by
  obtain ⟨_, _, _, _, _, _, _, _, _, _, _, _, _, _, _, _, _, _, _, _, _, _, z⟩ := x
  exact z.elim
abbrev BlkP (X : Cx) (scope : Scope) (P : Cx → Prop) : Prop := ∀ (s : Shared) (H : Hp) (C : Addr) (cl : List (Str × Addr)) (fp : List Addr), P (X.blk s H scope (compEnvC scope cl C X.env) fp)
def tGWb (X : Cx) (n : En) (scope : Scope) (vs : List Nat) (g : DG) : TG := fun v σ H Q => ∃ F ρ st w DQ, Rl X.K n F ρ st σ H ∧ RepW X.K F ρ w v ∧ g w st DQ (fun _ _ => False) ∧ ∀ σ' H' F' ρ' st', Post F ρ H F' ρ' H' → Rl X.K n F' ρ' st' σ' H' → DQ st' → σ'.length = σ.length → (∀ j, j ∉ vs → σ'[j]? = σ[j]?) → Q σ' H'
def tTb (X : Cx) (n : En) (w : DT) : TT := fun σ H Q => ∃ F ρ st DQ, Rl X.K n F ρ st σ H ∧ w st DQ (fun _ _ => False) ∧
  ∀ b st' H' F' ρ', Post F ρ H F' ρ' H' → Rl X.K n F' ρ' st' σ H' → DQ b st' → Q b H'
def tEb (X : Cx) (n : En) (w : DE) : TE := fun σ H Q => ∃ F ρ st DQ, Rl X.K n F ρ st σ H ∧ w st DQ (fun _ _ => False) ∧
  ∀ v w' st' H' F' ρ', Post F ρ H F' ρ' H' → Rl X.K n F' ρ' st' σ H' → RepW X.K F' ρ' w' v → DQ w' st' → Q v H'
theorem lc_sim {wi : DI} {tt : DT} {te : DE} {scope : Scope} {σ : L2.St} {H F : Hp} {ρ : List Addr} {st : Dst} {Q : DQ} {E : DX} {k : VK} (R : Rl X.K n F ρ st σ H) (tk : TkD X n E) (h : wLc wi g tt te vs st Q E) (hk : ∀ v H', qE X n σ F ρ H Q v H' → k v H') :
    tLc (tID X n wi) (tGWb X n scope vs g) (tTb X n tt) (tEb X n te) vs σ H k := by
  refine ⟨F, ρ, st, _, E, R, tk, h, fun J xs st1 H1 F1 ρ1 p1 R1 it h1 => ?_⟩
  have h1 := h1.run
  intro L hL
  have fL : F1 L = none := by
    cases q : F1 L with
    | none => rfl
    | some u => rw [R1.ok.sub L u q] at hL; cases hL
  have rL : L ∉ ρ1 := fun z => R1.ok.dom L z hL
  refine ⟨fun i m H' => m = xs.length - i ∧ i ≤ xs.length ∧ ∃ F' ρ' μ acc us, Post F1 ρ1 H1 F' ρ' H' ∧ StOk X.K F' ρ' μ H' ∧ F' L = none ∧ L ∉ ρ' ∧ H' L = some (.lst us) ∧ RepL X.K F' acc us ∧
      wLcL g tt te (wipeD st1.δ vs) (fun acc μ => Q (.d (.lst acc)) { st1 with μ := μ }) (xs.drop i) acc μ,
    ⟨xs.length, by simp, Nat.zero_le _, F1, ρ1, st1.μ, [], [], (Post.refl _ _ _).wrote hL, R1.ok.wrote fL rL (by rw [hL]; intro _ z; cases z), fL, rL, upd_same, RepL.nil, h1⟩, ?_⟩
  rintro i m H2 ⟨rfl, hi, F2, ρ2, μ2, acc, us, p2, ok2, f2, r2, e2, ra, h2⟩
  by_cases hlt : i < xs.length
  · refine .inr ⟨it.go i F2 H2 p2.le ok2.sub hlt, fun H' => i + 1 ≤ xs.length ∧ ∃ F' ρ' μ acc us, Post F1 ρ1 H1 F' ρ' H' ∧ StOk X.K F' ρ' μ H' ∧ F' L = none ∧ L ∉ ρ' ∧ H' L = some (.lst us) ∧ RepL X.K F' acc us ∧
      wLcL g tt te (wipeD st1.δ vs) (fun acc μ => Q (.d (.lst acc)) { st1 with μ := μ }) (xs.drop (i + 1)) acc μ, fun H' ⟨l, q⟩ => ⟨xs.length - (i + 1), by omega, rfl, l, q⟩, fun x H' y => ?_⟩
    obtain ⟨d, F3, ed, gr, rd⟩ := it.yld i F2 H2 x H' p2.le ok2.sub hlt y
    have ed : xs[i] = d := by rw [List.getElem?_eq_getElem hlt] at ed; exact Option.some.inj ed
    have edr : xs.drop i = d :: xs.drop (i + 1) := by rw [List.drop_eq_getElem_cons hlt, ed]
    rw [edr] at h2
    have R2 : Rl X.K n F2 ρ2 ⟨wipeD st1.δ vs, μ2⟩ (L2.wipe σ vs) H2 := (R1.wipe vs).step p2 ok2
    obtain ⟨p3, R3⟩ := R2.grow gr
    have p13 := p2.trans p3 ok2.dom
    obtain ⟨f3, e3⟩ := gr.keep f2 e2
    refine ⟨F3, ρ2, _, .d d, _, R3, rd, h2, fun σ4 H4 F4 ρ4 st4 p4 R4 h4 l4 z4 => ⟨?_, ?_⟩⟩
    · exact (wipe_eq l4 z4).trans (wipe_wipe vs)
    have p14 := p13.trans p4 R3.ok.dom
    obtain ⟨f4, e4, r4⟩ := p4.own f3 e3 r2
    have p24 := p3.trans p4 R3.ok.dom
    refine ⟨F4, ρ4, st4, _, R4, h4, fun bb st5 H5 F5 ρ5 p5 R5 h5 => ?_⟩
    have p15 := p14.trans p5 R4.ok.dom
    obtain ⟨f5, e5, r5⟩ := p5.own f4 e4 r4
    have p25 := p24.trans p5 R4.ok.dom
    cases bb with
    | false => have h5 := brD_f h5; exact ⟨hlt, F5, ρ5, st5.μ, acc, us, p15, R5.ok, f5, r5, e5, RepL.sub p25.le _ _ ra, h5⟩
    | true =>
      have h5 := brD_t h5
      refine ⟨F5, ρ5, st5, _, R5, h5, fun v w6 st6 H6 F6 ρ6 p6 R6 rw h6 => ?_⟩
      have p16 := p15.trans p6 R5.ok.dom
      obtain ⟨f6, e6, r6⟩ := p6.own f5 e5 r5
      have p26 := p25.trans p6 R5.ok.dom
      cases w6 <;> first | exact h6.elim | skip
      rename_i d6
      have ra6 := RepL.sub p26.le _ _ ra
      refine ⟨us, e6, by rw [← ra6.len, sizeLine_eq]; exact h6.1, hlt, F6, ρ6, st6.μ, acc ++ [d6], us ++ [v], p16.wrote hL, R6.ok.wrote f6 r6 (by rw [e6]; intro _ z; cases z), f6, r6, upd_same, ra6.app (RepL.one rw), h6.2⟩
  · have e : i = xs.length := by omega
    subst e
    rw [List.drop_length] at h2
    refine .inl ⟨it.stop _ F2 H2 p2.le ok2.sub (Nat.le_refl _), hk _ _ ⟨.d (.lst acc), { st1 with μ := μ2 }, L2.upd F2 L (.lst us), ρ2, p1.trans (p2.froze hL f2) R1.ok.dom, R1.step (p2.froze hL f2) (ok2.froze f2 e2 r2), ?_, h2⟩⟩
    show Rep _ _ (.lst acc) _
    unfold Rep
    exact ⟨L, us, rfl, upd_same, RepL.sub (fun b u e => by rw [upd_ne (ne_of_none e f2)]; exact e) _ _ ra⟩
theorem blk_g {scope : Scope} (hg : BlkP X scope fun Y => PGW Y n tg vs g) : ∀ (s : Shared) (H : Hp) (C : Addr) (cl : List (Str × Addr)) (fp : List Addr), PG (X.blk s H scope (compEnvC scope cl C X.env) fp) tg (tGWb X n scope vs g) := fun s H C cl fp => by
  refine ⟨fun pins s' σ H' v u Q I r ⟨F, ρ, st, w, DQ, R, rw, hw, k⟩ => ?_⟩
  exact thn ((hg s H C cl fp).run pins s' σ H' F ρ st w v u DQ _ I R (takes_no rfl) r rw hw) fun _ s1 ⟨σ', H', F', ρ', st', I', p, R', q, l, z⟩ => ⟨σ', H', I', k _ _ _ _ _ p R' q l z⟩
theorem blk_t {scope : Scope} {ifs : List Expr} {tt : DT} (hg : BlkP X scope fun Y => PTsD Y n ifs tt) : ∀ (s : Shared) (H : Hp) (C : Addr) (cl : List (Str × Addr)) (fp : List Addr), PTs (X.blk s H scope (compEnvC scope cl C X.env) fp) ifs (tTb X n tt) := fun s H C cl fp => by
  refine ⟨fun pins s' σ H' Q I ⟨F, ρ, st, DQ, R, hw, k⟩ => ?_⟩
  exact thn ((hg s H C cl fp).run pins s' σ H' F ρ st DQ _ I R (takes_no rfl) hw) fun u s1 ⟨st', H', F', ρ', I', a, b, d⟩ => ⟨H', I', k u st' H' F' ρ' a b d⟩
theorem blk_e {scope : Scope} {elt : Expr} {te : DE} (hg : BlkP X scope fun Y => PD Y n elt te) : ∀ (s : Shared) (H : Hp) (C : Addr) (cl : List (Str × Addr)) (fp : List Addr), PE (X.blk s H scope (compEnvC scope cl C X.env) fp) elt (tEb X n te) := fun s H C cl fp => by
  refine ⟨fun pins s' σ H' Q I ⟨F, ρ, st, DQ, R, hw, k⟩ => ?_⟩
  exact thn ((hg s H C cl fp).run pins s' σ H' F ρ st DQ _ I R (takes_no rfl) hw) fun u s1 ⟨v, w', st', H', F', ρ', I', r, a, b, c, d⟩ => ⟨v, H', I', r, k v w' st' H' F' ρ' a b c d⟩
theorem pd_lc {elt iter : Expr} {ifs : List Expr} {scope : Scope} (own : List (Str × Nat)) {wi : DI} {tt : DT} {te : DE} (hc : X.calm = true) (hN : X.N.Nodup) (hi : PID X n tg iter wi) (ok : BlkOk X.N X.env.scope scope own)
    (hg : BlkP X scope fun Y => PGW Y n tg (own.map (·.2)) g) (ht : BlkP X scope fun Y => PTsD Y n ifs tt) (he : BlkP X scope fun Y => PD Y n elt te) (hs : ∀ x, foldedSetIterable iter X.env x = pure x := by intro _; rfl) :
    PD X n (.ListComp elt [⟨tg, iter, ifs, 0⟩] scope pos) (wLc wi g tt te (own.map (·.2))) :=
  pd_of (pe_lc hc hN hi.pi ok (blk_g hg) (blk_t ht) (blk_e he) hs) fun σ H F ρ st Q E R tk hw => lc_sim R tk hw fun _ _ q => q
theorem psd_setLc {i : Nat} {y : Str} {py spos : Pos} {elt iter : Expr} {ifs : List Expr} {scope : Scope} (own : List (Str × Nat)) {wi : DI} {tt : DT} {te : DE} (hc : X.calm = true) (hN : X.N.Nodup) (hi : PID X n tg iter wi) (ok : BlkOk X.N X.env.scope scope own)
    (hg : BlkP X scope fun Y => PGW Y n tg (own.map (·.2)) g) (ht : BlkP X scope fun Y => PTsD Y n ifs tt) (he : BlkP X scope fun Y => PD Y n elt te)
    (hsw : swapsWith (.ListComp elt [⟨tg, iter, ifs, 0⟩] scope pos) (some (.Name y py)) spos.line X.env = pure true) (hy : X.N[i]? = some y := by rfl) (hyl : X.env.scope.names.lookup y = some .local := by rfl) (hs : ∀ x, foldedSetIterable iter X.env x = pure x := by intro _; rfl) :
    PSD X n (.Assign [.Name y py] (.ListComp elt [⟨tg, iter, ifs, 0⟩] scope pos) spos) (wAsg (wLc wi g tt te (own.map (·.2))) (gN i)) :=
  psd_of (ps_setLc hc hN hy hyl hsw hi.pi ok (blk_g hg) (blk_t ht) (blk_e he) hs) fun σ H F ρ st D R tk hw => lc_sim (scope := scope) (k := fun x H1 => gName i x σ H1 (qD X n F ρ H D).nx) R tk hw fun v H' ⟨w', st', F', ρ', p, R', r, q⟩ => ⟨F', ρ', _, p, R'.set i r, q⟩
end
end Dl
namespace Dl
open PySem PySem.Spec PyProof.Rows L2
variable [TheW]
abbrev DSp := List W → List O → (W → List O → Prop) → (Ex → List O → Prop) → Prop
def SpD (K : PySem.W.Frag) (m : Nat) (c : DSp) : Sp := fun vs H Q E => ∃ F ρ μ ws QD ED, StOk K F ρ μ H ∧ RepWL K F ρ ws vs ∧ ws.length = m ∧ c ws μ QD ED ∧
  (∀ w μ' v F' ρ' H', QD w μ' → Post F ρ H F' ρ' H' → StOk K F' ρ' μ' H' → RepW K F' ρ' w v → Q v H') ∧ (∀ x μ' cls d F' ρ' H', ED x μ' → Post F ρ H F' ρ' H' → StOk K F' ρ' μ' H' → ExRep K F' x cls d H' → E cls d H')
structure FnD (P : Program) (w : World) (K : PySem.W.Frag) (mg : Str → Option Value) (base : Heap) (x : Str) (k m : Nat) (c : DSp) : Prop where
  ex : ∃ f fd ps, FnOk P w K mg base (L2.CX P w) k f fd ps (SpD K m c) ∧ mg x = some (.ref f) ∧ PySem.W.keepIn K (.ref f) = true ∧ Binds K fd ps []
def locs : List W → List Nat
  | [] => []
  | .loc n :: ws => if n ∈ locs ws then locs ws else n :: locs ws
  | _ :: ws => locs ws
def ren (ls : List Nat) : W → W
  | .loc n => .loc (ls.idxOf n)
  | w => w
def unren (ls : List Nat) (N : Nat) : W → W
  | .loc j => match ls[j]? with
    | some n => .loc n
    | none => .loc (N + (j - ls.length))
  | w => w
def putB (μ : List O) : List Nat → List O → List O
  | [], os => μ ++ os
  | l :: ls, o :: os => (putB μ ls os).set l o
  | _ :: _, [] => μ
theorem locs_nd : ∀ ws : List W, (locs ws).Nodup
  | [] => List.nodup_nil
  | .loc n :: ws => by
    unfold locs
    split
    · exact locs_nd ws
    · rename_i h; exact List.nodup_cons.mpr ⟨h, locs_nd ws⟩
  | .d _ :: ws => locs_nd ws
  | .scr _ :: ws => locs_nd ws
theorem locs_mem {n : Nat} : ∀ {ws : List W}, W.loc n ∈ ws → n ∈ locs ws
  | .loc m :: ws, h => by
    unfold locs
    rcases List.mem_cons.mp h with e | h
    · cases e
      split
      · assumption
      · exact List.mem_cons_self
    · split
      · exact locs_mem h
      · exact List.mem_cons_of_mem _ (locs_mem h)
  | .d _ :: ws, h => locs_mem (ws := ws) ((List.mem_cons.mp h).resolve_left fun z => by cases z)
  | .scr _ :: ws, h => locs_mem (ws := ws) ((List.mem_cons.mp h).resolve_left fun z => by cases z)
theorem mem_locs {n : Nat} : ∀ {ws : List W}, n ∈ locs ws → W.loc n ∈ ws
  | [], h => by cases h
  | .loc m :: ws, h => by
    unfold locs at h
    split at h
    · exact List.mem_cons_of_mem _ (mem_locs h)
    · rcases List.mem_cons.mp h with e | h
      · subst e; exact List.mem_cons_self
      · exact List.mem_cons_of_mem _ (mem_locs h)
  | .d _ :: ws, h => List.mem_cons_of_mem _ (mem_locs (ws := ws) h)
  | .scr _ :: ws, h => List.mem_cons_of_mem _ (mem_locs (ws := ws) h)
section
variable {K : PySem.W.Frag} {F F1 : Hp} {ρ ρ1 : List Addr} {H H1 : Hp} {μ : List O}
def vw (ρ : List Addr) (ls : List Nat) : List Addr := ls.map fun l => ρ.getD l 0
def vwO (μ : List O) (ls : List Nat) : List O := ls.map fun l => μ.getD l .dead
theorem vw_get {ls : List Nat} {j l : Nat} (h : ls[j]? = some l) : (vw ρ ls)[j]? = some (ρ.getD l 0) := by
  unfold vw; rw [List.getElem?_map, h]; rfl
theorem getD_of {ρ : List Addr} {l : Nat} (h : l < ρ.length) : ρ[l]? = some (ρ.getD l 0) := by
  simp [List.getD, h]
theorem RepWL.mem : ∀ {ws : List W} {vs : List V} {n : Nat}, RepWL K F ρ ws vs → W.loc n ∈ ws → n < ρ.length
  | w :: ws, _, n, h, m => by
    obtain ⟨v, r, rfl, q, t⟩ := h
    rcases List.mem_cons.mp m with e | m
    · subst e
      obtain ⟨a, e, _⟩ := q
      exact (List.getElem?_eq_some_iff.mp e).1
    · exact t.mem m
theorem ren_rep {ls : List Nat} (hl : ∀ l ∈ ls, l < ρ.length) : ∀ {ws : List W} {vs : List V}, RepWL K F ρ ws vs → (∀ n, W.loc n ∈ ws → n ∈ ls) → RepWL K F (vw ρ ls) (ws.map (ren ls)) vs
  | [], _, h, _ => h
  | w :: ws, _, h, m => by
    obtain ⟨v, r, rfl, q, t⟩ := h
    refine ⟨v, r, rfl, ?_, ren_rep hl t fun n z => m n (List.mem_cons_of_mem _ z)⟩
    cases w with
    | d x => exact q
    | scr xs => exact q
    | loc n =>
      obtain ⟨a, e, rfl⟩ := q
      have hm := m n List.mem_cons_self
      have hi : ls[ls.idxOf n]? = some n := by
        have := List.idxOf_lt_length_of_mem hm
        rw [List.getElem?_eq_getElem this, List.getElem_idxOf]
      refine ⟨a, ?_, rfl⟩
      rw [vw_get hi, ← getD_of (hl n hm)]
      exact e
theorem vw_mem {ls : List Nat} (hl : ∀ l ∈ ls, l < ρ.length) {a : Addr} (h : a ∈ vw ρ ls) : a ∈ ρ := by
  unfold vw at h
  obtain ⟨l, h1, rfl⟩ := List.mem_map.mp h
  exact List.mem_of_getElem? (getD_of (hl l h1))
theorem vw_nd (nd : ρ.Nodup) : ∀ {ls : List Nat}, ls.Nodup → (∀ l ∈ ls, l < ρ.length) → (vw ρ ls).Nodup
  | [], _, _ => List.nodup_nil
  | l :: ls, h, hl => by
    obtain ⟨h1, h2⟩ := List.nodup_cons.mp h
    refine List.nodup_cons.mpr ⟨fun z => ?_, vw_nd nd h2 fun x hx => hl x (List.mem_cons_of_mem _ hx)⟩
    obtain ⟨l', m, e⟩ := List.mem_map.mp z
    have a1 := getD_of (ρ := ρ) (hl l List.mem_cons_self)
    have a2 := getD_of (ρ := ρ) (hl l' (List.mem_cons_of_mem _ m))
    rw [e] at a2
    have : l' = l := by
      obtain ⟨b1, c1⟩ := List.getElem?_eq_some_iff.mp a1
      obtain ⟨b2, c2⟩ := List.getElem?_eq_some_iff.mp a2
      exact (List.getElem_inj nd).mp (c2.trans c1.symm)
    exact h1 (this ▸ m)
theorem StOk.view (s : StOk K F ρ μ H) {ls : List Nat} (hn : ls.Nodup) (hl : ∀ l ∈ ls, l < ρ.length) : StOk K F (vw ρ ls) (vwO μ ls) H := by
  refine ⟨s.sub, by simp [vw, vwO], vw_nd s.nd hn hl, fun a h => s.dom a (vw_mem hl h), fun i a o e1 e2 => ?_, s.tabs, fun a h => s.notab a (vw_mem hl h)⟩
  have e2 : (ls.map fun l => μ.getD l .dead)[i]? = some o := e2
  rw [List.getElem?_map] at e2
  cases q : ls[i]? with
  | none => rw [q] at e2; cases e2
  | some l =>
    rw [q] at e2
    have e2 : μ.getD l .dead = o := Option.some.inj e2
    rw [vw_get q] at e1
    have lt := hl l (List.mem_of_getElem? q)
    refine s.obj l a o (by rw [getD_of lt]; exact e1) ?_
    have : l < μ.length := by rw [← s.len]; exact lt
    rw [← e2]; simp [List.getD, this]
theorem putB_len {μ : List O} : ∀ {ls : List Nat} {os : List O}, ls.length ≤ os.length → (putB μ ls os).length = μ.length + (os.length - ls.length)
  | [], os, _ => by simp [putB]
  | l :: ls, [], h => by simp at h
  | l :: ls, o :: os, h => by
    unfold putB
    rw [List.length_set, putB_len (by simpa using h)]
    simp
theorem putB_new {μ : List O} : ∀ {ls : List Nat} {os : List O} {i : Nat}, ls.length ≤ os.length → (∀ l ∈ ls, l < μ.length) → (putB μ ls os)[μ.length + i]? = os[ls.length + i]?
  | [], os, i, _, _ => by
    show (μ ++ os)[μ.length + i]? = os[0 + i]?
    rw [List.getElem?_append_right (by omega)]
    congr 1; omega
  | l :: ls, [], i, h, _ => by simp at h
  | l :: ls, o :: os, i, h, hl => by
    unfold putB
    have := hl l List.mem_cons_self
    rw [List.getElem?_set_ne (by omega), putB_new (by simpa using h) fun x hx => hl x (List.mem_cons_of_mem _ hx)]
    rw [show (l :: ls).length + i = (ls.length + i) + 1 by simp; omega]
    simp
theorem putB_old {μ : List O} : ∀ {ls : List Nat} {os : List O} {i : Nat}, ls.length ≤ os.length → i ∉ ls → i < μ.length → (putB μ ls os)[i]? = μ[i]?
  | [], os, i, _, _, h => by simp [putB, List.getElem?_append_left h]
  | l :: ls, [], i, h, _, _ => by simp at h
  | l :: ls, o :: os, i, h, hn, hi => by
    unfold putB
    rw [List.getElem?_set_ne (fun z => hn (by rw [z]; exact List.mem_cons_self)), putB_old (by simpa using h) (fun z => hn (List.mem_cons_of_mem _ z)) hi]
theorem putB_in {μ : List O} : ∀ {ls : List Nat} {os : List O} {j l : Nat}, ls.Nodup → ls.length ≤ os.length → (∀ l ∈ ls, l < μ.length) → ls[j]? = some l → (putB μ ls os)[l]? = os[j]?
  | [], os, j, l, _, _, _, h => by simp at h
  | x :: ls, [], j, l, _, h, _, _ => by simp at h
  | x :: ls, o :: os, 0, l, hn, hz, hl, h => by
    simp at h; subst h
    unfold putB
    have hx := hl x List.mem_cons_self
    rw [List.getElem?_set_self (by rw [putB_len (by simpa using hz)]; omega)]
    rfl
  | x :: ls, o :: os, j + 1, l, hn, hz, hl, h => by
    unfold putB
    have h : ls[j]? = some l := by simpa using h
    obtain ⟨n1, n2⟩ := List.nodup_cons.mp hn
    rw [List.getElem?_set_ne (fun z => n1 (by rw [z]; exact List.mem_of_getElem? h)), putB_in n2 (by simpa using hz) (fun x hx => hl x (List.mem_cons_of_mem _ hx)) h]
    simp
theorem view_back (s : StOk K F ρ μ H) {ls : List Nat} (hn : ls.Nodup) (hl : ∀ l ∈ ls, l < ρ.length) {ρ' : List Addr} {μ' : List O} (p : Post F (vw ρ ls) H F1 ρ' H1) (s' : StOk K F1 ρ' μ' H1) :
    ∃ t, ρ' = vw ρ ls ++ t ∧ Post F ρ H F1 (ρ ++ t) H1 ∧ StOk K F1 (ρ ++ t) (putB μ ls μ') H1 := by
  obtain ⟨t, e⟩ := p.pre
  have lv : (vw ρ ls).length = ls.length := by simp [vw]
  have l' : μ'.length = ls.length + t.length := by rw [← s'.len, e, List.length_append, lv]
  have hz : ls.length ≤ μ'.length := by omega
  have hlm : ∀ l ∈ ls, l < μ.length := fun l h => by rw [← s.len]; exact hl l h
  have ht : ∀ a, a ∈ t → a ∈ ρ' ∧ a ∉ vw ρ ls ∧ H a = none := fun a ha => by
    have h1 : a ∈ ρ' := by rw [e]; exact List.mem_append_right _ ha
    have h2 : a ∉ vw ρ ls := fun z => by
      have := s'.nd
      rw [e] at this
      exact (List.nodup_append.mp this).2.2 a z a ha rfl
    exact ⟨h1, h2, p.fresh a h1 h2⟩
  have P : Post F ρ H F1 (ρ ++ t) H1 := by
    refine ⟨p.le, ⟨t, rfl⟩, fun b h => ?_, fun b o h nb => p.keepT b o h fun z => nb (vw_mem hl z), fun b h nb => ?_⟩
    · rcases p.new b h with z | z | z
      · exact .inl z
      · exact .inr (.inl z)
      · exact .inr (.inr (vw_mem hl z))
    · rcases List.mem_append.mp h with z | z
      · exact absurd z nb
      · exact (ht b z).2.2
  refine ⟨t, e, P, s'.sub, ?_, ?_, fun a h => ?_, fun i a o e1 e2 => ?_, s'.tabs, fun a h ps => ?_⟩
  · rw [List.length_append, putB_len hz, s.len]; omega
  · refine List.nodup_append.mpr ⟨s.nd, ?_, fun a ha b hb z => ?_⟩
    · have := s'.nd
      rw [e] at this
      exact (List.nodup_append.mp this).2.1
    · subst z
      exact s.dom a ha (ht a hb).2.2
  · rcases List.mem_append.mp h with z | z
    · by_cases hv : a ∈ vw ρ ls
      · exact s'.dom a (by rw [e]; exact List.mem_append_left _ hv)
      · cases q : H a with
        | none => exact absurd q (s.dom a z)
        | some u => exact p.dom q hv
    · exact s'.dom a (ht a z).1
  · by_cases hi : i < ρ.length
    · rw [List.getElem?_append_left hi] at e1
      by_cases hm : i ∈ ls
      · obtain ⟨j, hj, ej⟩ := List.mem_iff_getElem.mp hm
        have ej : ls[j]? = some i := by rw [List.getElem?_eq_getElem hj, ej]
        rw [putB_in hn hz hlm ej] at e2
        refine s'.obj j a o ?_ e2
        rw [e, List.getElem?_append_left (by rw [lv]; exact hj), vw_get ej, ← getD_of hi]
        exact e1
      · rw [putB_old hz hm (by rw [← s.len]; exact hi)] at e2
        have am : a ∈ ρ := List.mem_of_getElem? e1
        have nv : a ∉ vw ρ ls := fun z => by
          obtain ⟨l, h1, h2⟩ := List.mem_map.mp z
          have h3 := getD_of (ρ := ρ) (hl l h1)
          rw [h2] at h3
          obtain ⟨b1, c1⟩ := List.getElem?_eq_some_iff.mp h3
          obtain ⟨b2, c2⟩ := List.getElem?_eq_some_iff.mp e1
          have : l = i := (List.getElem_inj s.nd).mp (c1.trans c2.symm)
          exact hm (this ▸ h1)
        refine (s.obj i a o e1 e2).mono p.le (fun z => ?_) fun u hu => p.keep a u hu nv fun ps e => s.notab a am ps (e ▸ hu)
        cases q : F1 a with
        | none => rfl
        | some u =>
          rcases p.new a (by rw [q]; simp) with y | y | y
          · exact absurd z y
          · exact absurd y (s.dom a am)
          · exact absurd y nv
    · rw [List.getElem?_append_right (by omega)] at e1
      have e2 : (putB μ ls μ')[μ.length + (i - ρ.length)]? = some o := by rw [← s.len, show ρ.length + (i - ρ.length) = i by omega]; exact e2
      rw [putB_new hz hlm] at e2
      refine s'.obj _ a o ?_ e2
      rw [e, List.getElem?_append_right (by rw [lv]; omega), lv, show ls.length + (i - ρ.length) - ls.length = i - ρ.length by omega]
      exact e1
  · rcases List.mem_append.mp h with z | z
    · by_cases hv : a ∈ vw ρ ls
      · exact s'.notab a (by rw [e]; exact List.mem_append_left _ hv) ps
      · cases q : H a with
        | none => exact absurd q (s.dom a z)
        | some u => rw [p.keep a u q hv fun qs e => s.notab a z qs (e ▸ q)]; exact fun y => s.notab a z ps (by rw [q]; exact y)
    · exact s'.notab a (ht a z).1 ps
theorem unren_rep {ls : List Nat} {t : List Addr} (hl : ∀ l ∈ ls, l < ρ.length) {w : W} {v : V} (h : RepW K F (vw ρ ls ++ t) w v) : RepW K F (ρ ++ t) (unren ls ρ.length w) v := by
  have lv : (vw ρ ls).length = ls.length := by simp [vw]
  cases w with
  | d x => exact h
  | scr xs => exact h
  | loc j =>
    obtain ⟨a, e, rfl⟩ := h
    show RepW K F (ρ ++ t) (match ls[j]? with
      | some n => .loc n
      | none => .loc (ρ.length + (j - ls.length))) (.ref a)
    cases q : ls[j]? with
    | some l =>
      have hj := (List.getElem?_eq_some_iff.mp q).1
      rw [List.getElem?_append_left (by rw [lv]; exact hj), vw_get q, ← getD_of (hl l (List.mem_of_getElem? q))] at e
      refine ⟨a, ?_, rfl⟩
      rw [List.getElem?_append_left (hl l (List.mem_of_getElem? q))]; exact e
    | none =>
      have hj : ls.length ≤ j := List.getElem?_eq_none_iff.mp q
      rw [List.getElem?_append_right (by rw [lv]; exact hj), lv] at e
      refine ⟨a, ?_, rfl⟩
      rw [List.getElem?_append_right (by omega)]
      rw [show ρ.length + (j - ls.length) - ρ.length = j - ls.length by omega]; exact e
end
structure wFn (c : DSp) (ws : List W) (st1 : Dst) (Q : DQ) (E : DX) : Prop where
  ap :   c (ws.map (ren (locs ws))) (vwO st1.μ (locs ws)) (fun w μ' => Q (unren (locs ws) st1.μ.length w) { st1 with μ := putB st1.μ (locs ws) μ' }) (fun x μ' => E x { st1 with μ := putB st1.μ (locs ws) μ' })
section
variable {X : Cx} {n : En} {e o : Expr} {es : List Expr} {pos p : Pos}
theorem call_sp {m : Nat} {c : DSp} {σ : L2.St} {H F : Hp} {ρ : List Addr} {st : Dst} {vs : List V} {ws : List W} {Q : DQ} {E : DX} (R : Rl X.K n F ρ st σ H) (r : RepWL X.K F ρ ws vs) (hm : ws.length = m) (h : wFn c ws st Q E) {EX : XK}
    (hE : ∀ cls d H', (∃ st' F' ρ' x, Rl X.K n F' ρ' st' σ H' ∧ ExRep X.K F' x cls d H' ∧ E x st') → EX cls d H') :
    SpD X.K m c vs H (fun v H' => ∃ w' st' F' ρ', Post F ρ H F' ρ' H' ∧ Rl X.K n F' ρ' st' σ H' ∧ RepW X.K F' ρ' w' v ∧ Q w' st') EX := by
  have hl : ∀ l ∈ locs ws, l < ρ.length := fun l hl => r.mem (mem_locs hl)
  refine ⟨F, vw ρ (locs ws), vwO st.μ (locs ws), ws.map (ren (locs ws)), _, _, R.ok.view (locs_nd ws) hl, ren_rep hl r fun n z => locs_mem z, by simpa using hm, h.ap, fun w μ' v F' ρ' H' q p ok rw => ?_, fun x μ' cls d F' ρ' H' q p ok rx => ?_⟩
  · obtain ⟨t, e, P, ok2⟩ := view_back R.ok (locs_nd ws) hl p ok
    subst e
    exact ⟨_, _, F', ρ ++ t, P, R.step P ok2, by rw [← R.ok.len]; exact unren_rep hl rw, q⟩
  · obtain ⟨t, e, P, ok2⟩ := view_back R.ok (locs_nd ws) hl p ok
    exact hE cls d H' ⟨_, F', ρ ++ t, x, R.step P ok2, rx, q⟩
end
def startD (N : Nat) (ws : List W) : List (Option W) := ws.map some ++ List.replicate (N - ws.length) none
theorem rl_start {K : PySem.W.Frag} {F : Hp} {ρ : List Addr} {μ : List O} {H : Hp} {N : List Str} {ws : List W} {vs : List V} (s : StOk K F ρ μ H) (r : RepWL K F ρ ws vs) : Rl K ⟨F, ρ, H⟩ F ρ ⟨startD N.length ws, μ⟩ (L2.start N vs) H := by
  have get : ∀ {ws : List W} {vs : List V} {i : Nat} {w : W}, RepWL K F ρ ws vs → ws[i]? = some w → ∃ v, vs[i]? = some v ∧ RepW K F ρ w v := by
    intro ws
    induction ws with
    | nil => intro vs i w h e; simp at e
    | cons x ws ih =>
      intro vs i w h e
      obtain ⟨v, t, rfl, q, h2⟩ := h
      cases i with
      | zero => simp at e; subst e; exact ⟨v, rfl, q⟩
      | succ i =>
        obtain ⟨u, e1, e2⟩ := ih (i := i) h2 (by simpa using e)
        exact ⟨u, by simpa using e1, e2⟩
  refine ⟨s, Post.refl _ _ _, by simp [startD, L2.start, r.len], fun i w e => ?_⟩
  have e : (startD N.length ws)[i]? = some (some w) := e
  unfold startD at e
  by_cases hi : i < ws.length
  · rw [List.getElem?_append_left (by simpa using hi), List.getElem?_map] at e
    cases q : ws[i]? with
    | none => rw [q] at e; cases e
    | some w' =>
      rw [q] at e
      have e : w' = w := by simpa using e
      subst e
      obtain ⟨v, e1, e2⟩ := get r q
      refine ⟨v, ?_, e2⟩
      unfold L2.start
      rw [List.getElem?_append_left (by simpa [← r.len] using hi), List.getElem?_map, e1]
      rfl
  · rw [List.getElem?_append_right (by simpa using hi), List.getElem?_replicate] at e
    split at e <;> cases e
section
variable {P : Program} {w : World} {K : PySem.W.Frag} {mg : Str → Option Value} {base : Heap} {x qual : Str} {params : Arguments} {body : List Stmt} {scope : Scope} {dvs : List V} {kws : List (Str × V)} {f : Addr} {fd : FuncData}
abbrev cxD (P : Program) (w : World) (K : PySem.W.Frag) (mg : Str → Option Value) (base : Heap) (N : List Str) (qual : Str) (scope : Scope) (f : Addr) (cdv : Value) (A : Around) (outer : List Env) (s : Shared) (H : Hp) (E : XK) : Cx := cxOf (L2.CX P w) P w K mg base N qual scope f cdv A outer s H E
theorem ok_ofD {N ps : List Str} {k m : Nat} {c : DSp} {wb : DS} (F : FunD K x qual params body scope dvs kws f fd) (S : FnScope N ps scope) (hm : m = ps.length)
    (hb : ∀ (cdv : Value) (A : Around) (outer : List Env) (s : Shared) (H : Hp) (E : XK) (n : En), Room k (A.deeper (envOfC qual scope s.heap.objs.size f cdv)) → PSSD (cxD P w K mg base N qual scope f cdv A outer s H E) n body wb)
    (hc : ∀ ws μ Q E, ws.length = m → c ws μ Q E → wb { nx := fun st => Q (.d .non) st.μ, rt := Q, ex := fun x st => E x st.μ } ⟨startD N.length ws, μ⟩) : FnOk P w K mg base (L2.CX P w) (k + 1) f fd ps (SpD K m c) := by
  refine F.ok S (fun vs H Q E ⟨_, _, _, ws, _, _, _, r, hl, _⟩ => by rw [← r.len, hl, hm]) fun cdv A outer s H vs Q E hr h => ?_
  obtain ⟨F0, ρ, μ, ws, QD, ED, ok, r, hl, h, hq, he⟩ := h
  refine ⟨_, (hb cdv A outer s H E ⟨F0, ρ, H⟩ hr).pss, ?_⟩
  have tk : TkD (cxD P w K mg base N qual scope f cdv A outer s H E) ⟨F0, ρ, H⟩ (fun x st => ED x st.μ) :=
    (takes_of (X := cxD P w K mg base N qual scope f cdv A outer s H E) rfl rfl rfl rfl).imp fun cls d σ H' ⟨st', F', ρ', x, R, rx, z⟩ => he x st'.μ cls d F' ρ' H' z R.po R.ok rx
  refine tS.use (DD := { nx := fun st => QD (.d .non) st.μ, rt := QD, ex := fun x st => ED x st.μ }) (rl_start (N := N) ok r) tk (hc ws μ QD ED hl h) (fun σ' H' F' ρ' st' p R z => hq _ _ .non F' ρ' H' z p R.ok rfl) (fun v w' H' F' ρ' μ' p p0 ok' rw z => hq _ _ v F' ρ' H' z p ok' rw)
    (fun _ _ _ _ _ _ _ z => z.elim) (fun _ _ _ _ _ _ _ z => z.elim)
end
end Dl
namespace Dl
open PySem PySem.Spec PyProof.Rows L2
variable [TheW]
section
variable {K : PySem.W.Frag} {X : Cx} {n : En} {e o a b : Expr} {es : List Expr} {pos p : Pos} {we wo wi : DE}
theorem loc_lst {F H : Hp} {ρ : List Addr} {μ : List O} {j : Nat} {v : V} {xs : List D} (s : StOk K F ρ μ H) (r : RepW K F ρ (.loc j) v) (h : μ[j]? = some (.lst xs)) : ∃ p vs, v = .ref p ∧ ρ[j]? = some p ∧ F p = none ∧ H p = some (.lst vs) ∧ RepL K F xs vs := by
  obtain ⟨p, e, rfl⟩ := r
  obtain ⟨f, vs, h1, h2⟩ := s.obj j p _ e h
  exact ⟨p, vs, rfl, e, f, h1, h2⟩
def wIx (wa wb : DE) : DE := fun st Q E => wa st (fun a st1 => wb st1 (fun b st2 => match a, b with
  | .d x, .d y => oIx x y fun z => Q (.d z) st2
  | .loc j, .d (.int k) => match st2.μ[j]? with
    | some (.lst xs) => match atI xs k with
      | some d => Q (.d d) st2
      | none => False
    | _ => False
  | _, _ => False) E) E
theorem pd_ixW {wa wb : DE} (ha : PD X n a wa) (hb : PD X n b wb) (hs : PlainIx b := by exact fun _ _ => rfl) : PD X n (.Subscript a b pos) (wIx wa wb) :=
  pd_of (pe_ix ix_seq ha.pe hb.pe hs) fun σ H F ρ st Q E R tk hw => by
    refine tE.use R tk hw fun v w1 st1 H1 F1 ρ1 p1 R1 r1 h1 => ?_
    refine tE.use R1 tk h1 fun u w2 st2 H2 F2 ρ2 p2 R2 r2 h2 => ?_
    have p12 := p1.trans p2 R1.ok.dom
    have r1 := r1.post p2
    cases w1 with
    | scr _ => exact h2.elim
    | d x =>
      cases w2 <;> first | exact h2.elim | skip
      rename_i y
      refine ops_ix F2 H2 x y v u _ _ R2.ok.sub r1 r2 h2 fun z H' d F' g rz q => ?_
      obtain ⟨p3, R3⟩ := R2.grow g
      exact ⟨.d d, st2, F', ρ2, p12.trans p3 R2.ok.dom, R3, rz, q⟩
    | loc j =>
      cases w2 <;> first | exact h2.elim | skip
      rename_i y
      cases y <;> first | exact h2.elim | skip
      rename_i k
      obtain rfl := (show u = .int k from r2)
      have h2 : (match st2.μ[j]? with
        | some (.lst xs) => match atI xs k with
          | some d => Q (.d d) st2
          | none => False
        | _ => False) := h2
      split at h2
      · rename_i xs ex
        obtain ⟨q, vs, rfl, e1, f, h3, h4⟩ := loc_lst R2.ok r1 ex
        cases e : atI xs k with
        | none => rw [e] at h2; exact h2.elim
        | some d =>
          rw [e] at h2
          obtain ⟨z, e2, rz⟩ := atI_rep h4 e
          exact .inl ⟨q, vs, k, z, rfl, rfl, .of h3, e2, .d d, st2, F2, ρ2, p12, R2, rz, h2⟩
      · exact h2.elim
theorem Rl.store {F : Hp} {ρ : List Addr} {st : Dst} {σ : L2.St} {H : Hp} {j : Nat} {p : Addr} {o : O} {u : HO} (R : Rl K n F ρ st σ H) (e : ρ[j]? = some p) (h : OOk K F (upd H p u) p o) (f : F p = none) (nt : ∀ ps, u ≠ .tbl ps := by intro _ z; cases z) :
    Post F ρ H F ρ (upd H p u) ∧ Rl K n F ρ { st with μ := st.μ.set j o } σ (upd H p u) := by
  have pm : p ∈ ρ := List.mem_of_getElem? e
  have P : Post F ρ H F ρ (upd H p u) := ⟨SubH.refl F, ⟨[], by simp⟩, fun _ z => .inl z, fun b w hb nb => .inl (by rw [upd_ne (fun z : b = p => nb (by rw [z]; exact pm))]; exact hb), fun b z nb => absurd z nb⟩
  refine ⟨P, R.step P ⟨fun b w hb => by rw [upd_ne (ne_of_none hb f)]; exact R.ok.sub b w hb, by simp [R.ok.len], R.ok.nd, fun b hb => ?_, fun i b w e1 e2 => ?_, R.ok.tabs.ext (SubH.refl F) fun b ps f e => ?_, fun b hb ps => ?_⟩⟩
  rotate_left 2
  · rw [upd_ne (fun z : b = p => R.ok.notab p pm ps (by rw [← z]; exact e))]; exact ⟨f, e⟩
  · by_cases z : b = p
    · subst z; rw [upd_same]; intro z; cases z; exact nt ps rfl
    · rw [upd_ne z]; exact R.ok.notab b hb ps
  · by_cases z : b = p
    · subst z; rw [upd_same]; simp
    · rw [upd_ne z]; exact R.ok.dom b hb
  · by_cases z : j = i
    · subst z
      rw [e] at e1; cases e1
      have hj : j < st.μ.length := by rw [← R.ok.len]; exact (List.getElem?_eq_some_iff.mp e).1
      rw [List.getElem?_set_self hj] at e2
      cases e2
      exact h
    · rw [List.getElem?_set_ne z] at e2
      have nb : b ≠ p := fun y => by
        subst y
        obtain ⟨b1, c1⟩ := List.getElem?_eq_some_iff.mp e
        obtain ⟨b2, c2⟩ := List.getElem?_eq_some_iff.mp e1
        exact z ((List.getElem_inj R.ok.nd).mp (c1.trans c2.symm))
      exact (R.ok.obj i b w e1 e2).mono (SubH.refl F) (fun y => y) fun w hw => by rw [upd_ne nb]; exact hw
theorem RepL.set {F : Hp} {d : D} {v : V} (h : Rep K F d v) : ∀ {ds : List D} {vs : List V} (i : Nat), RepL K F ds vs → RepL K F (ds.set i d) (vs.set i v)
  | [], _, i, r => by unfold RepL at r; subst r; exact RepL.nil
  | x :: ds, _, 0, r => by
    unfold RepL at r
    obtain ⟨u, t, rfl, q, r⟩ := r
    exact RepL.cons h r
  | x :: ds, _, i + 1, r => by
    unfold RepL at r
    obtain ⟨u, t, rfl, q, r⟩ := r
    exact RepL.cons q (RepL.set h i r)
def gSub (wo wi : DE) : DG := fun w st Q E => wo st (fun o st1 => wi st1 (fun i st2 => match o, i, w with
  | .loc j, .d (.int k), .d x => match st2.μ[j]? with
    | some (.lst xs) => match ixN xs.length k with
      | some m => Q { st2 with μ := st2.μ.set j (.lst (xs.set m x)) }
      | none => False
    | _ => False
  | _, _, _ => False) E) E
theorem pgd_sub (ho : PD X n o wo) (hi : PD X n e wi) (ha : ∀ v, assign (.Subscript o e pos) X.env v = (do
      let ov ← holding [v] (eval o X.env)
      let iv ← holding [v, ov] (eval e X.env)
      standAt pos
      holding [v, ov, iv] (setItem ov iv v)
      release [v, ov, iv] []) := by intro _; rfl) : PGD X n (.Subscript o e pos) (gSub wo wi) :=
  pgd_of (pg_sub ho.pe hi.pe set_list ha) fun σ H F ρ st w v Q E R tk rw hw => by
    refine tE.use R tk hw fun v1 w1 st1 H1 F1 ρ1 p1 R1 r1 h1 => ?_
    refine tE.use R1 tk h1 fun v2 w2 st2 H2 F2 ρ2 p2 R2 r2 h2 => ?_
    have p12 := p1.trans p2 R1.ok.dom
    have r1 := r1.post p2
    have rw := rw.post p12
    have r2' := r2
    clear r2
    cases w1 with
    | d _ => exact h2.elim
    | scr _ => exact h2.elim
    | loc j =>
    cases w2 with
    | loc _ => exact h2.elim
    | scr _ => exact h2.elim
    | d y =>
    cases y <;> first | exact h2.elim | skip
    rename_i k
    cases w with
    | loc _ => exact h2.elim
    | scr _ => exact h2.elim
    | d x =>
    obtain rfl := (show v2 = .int k from r2')
    have h2 : (match st2.μ[j]? with
      | some (.lst xs) => match ixN xs.length k with
        | some m => Q { st2 with μ := st2.μ.set j (.lst (xs.set m x)) }
        | none => False
      | _ => False) := h2
    split at h2
    · rename_i xs ex
      obtain ⟨q, vs, rfl, e1, f, h3, h4⟩ := loc_lst R2.ok r1 ex
      cases e : ixN xs.length k with
      | none => rw [e] at h2; exact h2.elim
      | some m =>
        rw [e] at h2
        obtain ⟨p3, R3⟩ := R2.store (o := .lst (xs.set m x)) (u := .lst (vs.set m v)) e1 ⟨f, _, upd_same, RepL.set rw m h4⟩ f
        exact ⟨q, vs, k, m, rfl, rfl, h3, by rw [← h4.len]; exact e, F2, ρ2, _, p12.trans p3 R2.ok.dom, R3, h2⟩
    · exact h2.elim
def wLstN (wr : DA) : DE := fun st Q E => wr st (fun ws st1 => match datas ws with
  | some xs => xs.length ≤ 16777216 ∧ Q (.loc st1.μ.length) { st1 with μ := st1.μ ++ [.lst xs] }
  | none => False) E
theorem Rl.newO {F : Hp} {ρ : List Addr} {st : Dst} {σ : L2.St} {H : Hp} {p : Addr} {o : O} {u : HO} (R : Rl K n F ρ st σ H) (hp : H p = none) (h : OOk K F (upd H p u) p o) (nt : ∀ ps, u ≠ .tbl ps := by intro _ z; cases z) :
    Post F ρ H F (ρ ++ [p]) (upd H p u) ∧ Rl K n F (ρ ++ [p]) { st with μ := st.μ ++ [o] } σ (upd H p u) := by
  have np : ∀ b, b ∈ ρ → b ≠ p := fun b hb z => R.ok.dom b hb (z ▸ hp)
  have f : F p = none := by
    cases q : F p with
    | none => rfl
    | some w => rw [R.ok.sub p w q] at hp; cases hp
  have P : Post F ρ H F (ρ ++ [p]) (upd H p u) := ⟨SubH.refl F, ⟨[p], rfl⟩, fun _ z => .inl z, fun b w hb nb => .inl (by rw [upd_ne (ne_of_none hb hp)]; exact hb), fun b z nb => by
    rcases List.mem_append.mp z with z | z
    · exact absurd z nb
    · obtain rfl := List.mem_singleton.mp z; exact hp⟩
  refine ⟨P, R.step P ⟨fun b w hb => by rw [upd_ne (ne_of_none hb f)]; exact R.ok.sub b w hb, by simp [R.ok.len], ?_, fun b hb => ?_, fun i b w e1 e2 => ?_, R.ok.tabs.ext (SubH.refl F) fun b ps f e => ⟨f, by rw [upd_ne (ne_of_none e hp)]; exact e⟩, fun b hb ps => ?_⟩⟩
  rotate_left 3
  · rcases List.mem_append.mp hb with z | z
    · rw [upd_ne (np b z)]; exact R.ok.notab b z ps
    · obtain rfl := List.mem_singleton.mp z; rw [upd_same]; intro z; cases z; exact nt ps rfl
  · refine List.nodup_append.mpr ⟨R.ok.nd, by simp, fun b hb c hc z => ?_⟩
    obtain rfl := List.mem_singleton.mp hc
    exact np b hb z
  · rcases List.mem_append.mp hb with z | z
    · rw [upd_ne (np b z)]; exact R.ok.dom b z
    · obtain rfl := List.mem_singleton.mp z; rw [upd_same]; simp
  · by_cases hi : i < ρ.length
    · rw [List.getElem?_append_left hi] at e1
      rw [List.getElem?_append_left (by rw [← R.ok.len]; exact hi)] at e2
      exact (R.ok.obj i b w e1 e2).mono (SubH.refl F) (fun y => y) fun w hw => by rw [upd_ne (np b (List.mem_of_getElem? e1))]; exact hw
    · rw [List.getElem?_append_right (by omega)] at e1
      rw [List.getElem?_append_right (by rw [← R.ok.len]; omega), ← R.ok.len] at e2
      cases hj : i - ρ.length with
      | zero => rw [hj] at e1 e2; cases e1; cases e2; exact h
      | succ j => rw [hj] at e1; simp at e1
theorem pd_lstN {wr : DA} (h : PAD X n es wr) : PD X n (.List es pos) (wLstN wr) :=
  pd_of (pe_lst h.pa) fun σ H F ρ st Q E R tk hw => by
    refine tA.use R tk hw fun vs ws st1 H1 F1 ρ1 p1 R1 r1 h1 => ?_
    cases e : datas ws with
    | none => rw [e] at h1; exact h1.elim
    | some xs =>
      rw [e] at h1
      rw [datas_map e] at r1
      have q := r1.ofD
      refine ⟨by rw [← q.len, sizeLine_eq]; exact h1.1, fun p hp => ?_⟩
      have f : F1 p = none := by
        cases q : F1 p with
        | none => rfl
        | some w => rw [R1.ok.sub p w q] at hp; cases hp
      obtain ⟨p2, R2⟩ := R1.newO (o := .lst xs) (u := .lst vs) hp ⟨f, vs, upd_same, q⟩
      exact ⟨.loc st1.μ.length, _, F1, ρ1 ++ [p], p1.trans p2 R1.ok.dom, R2, ⟨p, by rw [← R1.ok.len]; simp, rfl⟩, h1.2⟩
def wSlScr (w : DE) (lo hi : DPo) : DE := fun st Q E => w st (fun v st1 => lo st1 (fun l st2 => hi st2 (fun h st3 => match v with
  | .scr xs => Q (.d (.lst (cutD (xs.map D.int) l h))) st3
  | _ => False) E) E) E
theorem repL_ints {F : Hp} : ∀ xs : List Int, RepL K F (xs.map D.int) (xs.map V.int)
  | [] => RepL.nil
  | x :: xs => RepL.cons rfl (repL_ints xs)
theorem pd_sliceScr {lo hi : Option Expr} {wl wh : DPo} {p2 : Pos} (h : PD X n e we) (hl : POD X n lo wl) (hh : POD X n hi wh) : PD X n (.Subscript e (.Slice lo hi none p2) pos) (wSlScr we wl wh) :=
  pd_of (pe_slice sl_list h.pe hl.po hh.po) fun σ H F ρ st Q E R tk hw => by
    refine tE.use R tk hw fun v w1 st1 H1 F1 ρ1 p1 R1 r1 h1 => ?_
    refine ⟨F1, ρ1, st1, _, E, R1, tk, h1, fun l st2 H2 F2 ρ2 p2 R2 h2 => ?_⟩
    refine ⟨F2, ρ2, st2, _, E, R2, tk, h2, fun u st3 H3 F3 ρ3 p3 R3 h3 => ?_⟩
    cases w1 <;> first | exact h3.elim | skip
    rename_i xs
    obtain ⟨a, rfl, q⟩ := (r1.post p2).post p3
    have p13 := (p1.trans p2 R1.ok.dom).trans p3 R2.ok.dom
    refine ⟨a, xs.map V.int, rfl, SqL.sub R3.ok.sub q, fun p hp => ?_⟩
    have g : Grow F3 H3 (upd F3 p (.lst (cutV (xs.map V.int) l u))) (upd H3 p (.lst (cutV (xs.map V.int) l u))) := .one hp
    obtain ⟨p4, R4⟩ := R3.grow g
    refine ⟨.d (.lst (cutD (xs.map D.int) l u)), st3, _, _, p13.trans p4 R3.ok.dom, R4, ?_, h3⟩
    show Rep _ _ (.lst _) _
    unfold Rep
    exact ⟨p, _, rfl, upd_same, repL_cut (repL_ints xs) l u⟩
abbrev DMt := D → List D → (D → Prop) → Prop
def MtS (K : PySem.W.Frag) (r : V → List V → Hp → VK → Prop) (o : DMt) : Prop := ∀ (F H : Hp) (x : D) (xs : List D) (v : V) (vs : List V) (Q : D → Prop) (k : VK), SubH F H → Rep K F x v → RepL K F xs vs → o x xs Q → (∃ z, x = .str z) ∧ ((∀ z H' d F', Grow F H F' H' → Rep K F' d z → Q d → k z H') → r v vs H k)
def wM1 (o : DMt) (w wa : DE) : DE := fun st Q E => w st (fun v st1 => match v with
  | .d (.str x) => wa st1 (fun u st2 => match u with
    | .d y => o (.str x) [y] fun z => Q (.d z) st2
    | _ => False) E
  | _ => False) E
theorem pd_m1 {id : String} {name : Str} {apos : Pos} {r : V → List V → Hp → VK → Prop} {o' : DMt} {wa : DE} (slot : Slot "str" name id) (ty : typeOf (.builtin id) = pure (.type "method_descriptor")) (rule : MtR X id r) (S : MtS X.K r o') (ho : PD X n o we) (he : PD X n e wa)
    (hs : starEach [e] X.env = [(false, eval e X.env)] := by rfl) (hbase : attributeBase o name X.env (eval o X.env) = eval o X.env := by rfl) (hline : (apos.endLine == pos.line) = true := by rfl) : PD X n (.Call (.Attribute o name apos) [e] [] pos) (wM1 o' we wa) :=
  pd_of (pe_m1 slot ty rule ho.pe he.pe hs hbase hline) fun σ H F ρ st Q E R tk hw => by
    refine tE.use R tk hw fun v w1 st1 H1 F1 ρ1 p1 R1 r1 h1 => ?_
    cases w1 <;> first | exact h1.elim | skip
    rename_i x
    cases x <;> first | exact h1.elim | skip
    rename_i x
    obtain rfl := (show v = .str (mkS x) from r1)
    refine ⟨⟨_, rfl⟩, ?_⟩
    refine tE.use R1 tk h1 fun u w2 st2 H2 F2 ρ2 p2 R2 r2 h2 => ?_
    cases w2 <;> first | exact h2.elim | skip
    rename_i y
    refine (S F2 H2 (.str x) [y] _ [u] _ _ R2.ok.sub rfl (RepL.one r2) h2).2 fun z H' d F' g rz q => ?_
    obtain ⟨p3, R3⟩ := R2.grow g
    exact ⟨.d d, st2, F', ρ2, (p1.trans p2 R1.ok.dom).trans p3 R2.ok.dom, R3, rz, q⟩
def strsD : List D → Option (List (List Nat))
  | [] => some []
  | .str x :: ds => match strsD ds with
    | some r => some (x :: r)
    | none => none
  | _ :: _ => none
theorem strsD_rep {F : Hp} : ∀ {ds : List D} {zs : List (List Nat)} {vs : List V}, strsD ds = some zs → RepL K F ds vs → vs = (zs.map mkS).map V.str
  | [], zs, vs, e, r => by cases e; unfold RepL at r; exact r
  | .str x :: ds, zs, vs, e, r => by
    unfold strsD at e
    cases q : strsD ds with
    | none => rw [q] at e; cases e
    | some ys =>
      rw [q] at e; cases e
      unfold RepL at r
      obtain ⟨v, t, rfl, h1, h2⟩ := r
      obtain rfl := h1
      rw [strsD_rep q h2]; rfl
  | .non :: _, _, _, e, _ => by cases e
  | .bl _ :: _, _, _, e, _ => by cases e
  | .int _ :: _, _, _, e, _ => by cases e
  | .tup _ :: _, _, _, e, _ => by cases e
  | .lst _ :: _, _, _, e, _ => by cases e
  | .dic _ _ :: _, _, _, e, _ => by cases e
  | .ins _ _ _ :: _, _, _, e, _ => by cases e
  | .ty _ :: _, _, _, e, _ => by cases e
  | .cls _ :: _, _, _, e, _ => by cases e
  | .exc _ _ _ :: _, _, _, e, _ => by cases e
  | .lamR _ _ :: _, _, _, e, _ => by cases e
  | .lam _ _ _ :: _, _, _, e, _ => by cases e
def joinD (S : List Nat) : List (List Nat) → List Nat
  | [] => []
  | [p] => p
  | p :: q :: r => p ++ (S ++ joinD S (q :: r))
theorem joinD_str (a : List Nat) : ∀ zs : List (List Nat), Str.join (mkS a) (zs.map mkS) = mkS (joinD a zs)
  | [] => rfl
  | [p] => rfl
  | p :: q :: r => by
    show mkS p ++ mkS a ++ Str.join (mkS a) ((q :: r).map mkS) = mkS (p ++ (a ++ joinD a (q :: r)))
    rw [joinD_str a (q :: r), mkS_app, mkS_app, List.append_assoc]
def oJoin : DMt := fun x xs Q => match x, xs with
  | .str a, [.lst ys] => ∃ zs, strsD ys = some zs ∧ (zs.map (·.length)).sum + zs.length * a.length ≤ 16777216 ∧ Q (.str (joinD a zs))
  | _, _ => False
theorem mts_join : MtS K (fun x xs H Q => ∃ a p, ∃ ys : List Str, x = .str a ∧ xs = [.ref p] ∧ (SqL K H p (ys.map V.str) ∨ SqT K H p (ys.map V.str)) ∧
    (ys.map (·.length)).sum + ys.length * a.length ≤ 16777216 ∧ Q (.str (Txt.join a ys)) H) oJoin := by
  intro F H x xs v vs Q k s rx r h
  unfold oJoin at h
  split at h
  · rename_i a ys
    refine ⟨⟨a, rfl⟩, fun c => ?_⟩
    obtain rfl := rx
    obtain ⟨u, rfl, q⟩ := repL1 r
    unfold Rep at q
    obtain ⟨p, us, rfl, e1, q⟩ := q
    obtain ⟨zs, e2, hz, z⟩ := h
    have e3 := strsD_rep e2 q
    subst e3
    refine ⟨mkS a, p, zs.map mkS, rfl, rfl, .inl (.of (s _ _ e1)), ?_, ?_⟩
    · rw [List.map_map, List.length_map, mkS_len]
      have : ((fun x : Str => x.length) ∘ mkS) = fun z : List Nat => z.length := by funext z; exact mkS_len z
      rw [this]; exact hz
    · rw [TL.join_eq, joinD_str]
      exact c _ H (.str (joinD a zs)) F (.refl _ _) rfl z
  · exact h.elim
theorem pd_join {apos : Pos} {wa : DE} (ho : PD X n o we) (he : PD X n e wa) (hs : starEach [e] X.env = [(false, eval e X.env)] := by rfl) (hbase : attributeBase o "join" X.env (eval o X.env) = eval o X.env := by rfl) (hline : (apos.endLine == pos.line) = true := by rfl) :
    PD X n (.Call (.Attribute o "join" apos) [e] [] pos) (wM1 oJoin we wa) := pd_m1 F.slot_str_join F.type_str_join mt_join mts_join ho he hs hbase hline
def oInS : DOp := fun x y Q => match x, y with
  | .str [c], .str z => Q (.bl (decide (c ∈ z)))
  | _, _ => False
def oNotInS : DOp := fun x y Q => match x, y with
  | .str [c], .str z => Q (.bl (!decide (c ∈ z)))
  | _, _ => False
theorem ops_inS : OpS K (fun x y H Q => ∃ (c : Nat) (z : Str), x = .str ⟨#[c]⟩ ∧ y = .str z ∧ Q (.bl (decide (c ∈ z.cps.toList))) H) oInS := by
  intro F H x y v u Q k s r1 r2 h c
  unfold oInS at h
  split at h
  · obtain rfl := r1
    obtain rfl := r2
    exact ⟨_, _, rfl, rfl, by simpa using c _ H (.bl _) F (.refl _ _) rfl h⟩
  · exact h.elim
theorem ops_notInS : OpS K (fun x y H Q => ∃ (c : Nat) (z : Str), x = .str ⟨#[c]⟩ ∧ y = .str z ∧ Q (.bl (!decide (c ∈ z.cps.toList))) H) oNotInS := by
  intro F H x y v u Q k s r1 r2 h c
  unfold oNotInS at h
  split at h
  · obtain rfl := r1
    obtain rfl := r2
    exact ⟨_, _, rfl, rfl, by simpa using c _ H (.bl _) F (.refl _ _) rfl h⟩
  · exact h.elim
def flatD : D → Option V
  | .non => some .non
  | .bl b => some (.bl b)
  | .int i => some (.int i)
  | .str x => some (.str (mkS x))
  | _ => none
def flatsD : List D → Option (List V)
  | [] => some []
  | d :: ds => match flatD d, flatsD ds with
    | some v, some vs => some (v :: vs)
    | _, _ => none
theorem flatD_rep {F : Hp} {d : D} {v z : V} (e : flatD d = some z) (r : Rep K F d v) : v = z ∧ flatV z = true := by
  cases d <;> first | (cases e; done) | skip
  all_goals (cases e; obtain rfl := r; exact ⟨rfl, rfl⟩)
theorem flatsD_rep {F : Hp} : ∀ {ds : List D} {zs vs : List V}, flatsD ds = some zs → RepL K F ds vs → vs = zs ∧ zs.all flatV = true
  | [], zs, vs, e, r => by cases e; unfold RepL at r; exact ⟨r, rfl⟩
  | d :: ds, zs, vs, e, r => by
    unfold flatsD at e
    cases h1 : flatD d with
    | none => rw [h1] at e; cases e
    | some z =>
      cases h2 : flatsD ds with
      | none => rw [h1, h2] at e; cases e
      | some t =>
        rw [h1, h2] at e; cases e
        unfold RepL at r
        obtain ⟨v, rr, rfl, q1, q2⟩ := r
        obtain ⟨e1, f1⟩ := flatD_rep h1 q1
        obtain ⟨e2, f2⟩ := flatsD_rep h2 q2
        subst e1 e2
        exact ⟨rfl, by rw [List.all_cons, f1, f2]; rfl⟩
def rowOf : D → Option (List D)
  | .lst xs => some xs
  | .tup xs => some xs
  | _ => none
def oInF (neg : Bool) : DOp := fun x y Q => ∃ z xs vs, rowOf y = some xs ∧ flatD x = some z ∧ flatsD xs = some vs ∧ Q (.bl (if neg then !inV z vs else inV z vs))
theorem ops_inF (neg : Bool) : OpS K (rIn K neg) (oInF neg) := by
  intro F H x y v u Q k s r1 r2 h c
  obtain ⟨z, xs, vs, e0, e1, e2, q⟩ := h
  obtain ⟨rfl, f1⟩ := flatD_rep e1 r1
  have fin := c _ H (.bl _) F (.refl _ _) rfl q
  cases y <;> first | (cases e0; done) | skip
  · cases e0
    unfold Rep at r2
    obtain ⟨p, us, rfl, h1, h2⟩ := r2
    obtain ⟨rfl, f2⟩ := flatsD_rep e2 h2
    exact ⟨p, us, rfl, .inr (h1.sq s), f1, f2, fin⟩
  · cases e0
    unfold Rep at r2
    obtain ⟨p, us, rfl, h1, h2⟩ := r2
    obtain ⟨rfl, f2⟩ := flatsD_rep e2 h2
    exact ⟨p, us, rfl, .inl (.of (s _ _ h1)), f1, f2, fin⟩
theorem ptd_lt {wa wb : DE} (ha : PD X n a wa) (hb : PD X n b wb) : PTD X n (.Compare a [.Lt] [b] pos) (wTest (wOp oLt wa wb)) := ptd_cmp op_lt ops_lt (nomark _) ha hb
theorem ptd_gt {wa wb : DE} (ha : PD X n a wa) (hb : PD X n b wb) : PTD X n (.Compare a [.Gt] [b] pos) (wTest (wOp oGt wa wb)) := ptd_cmp op_gt ops_gt (nomark _) ha hb
theorem ptd_ge {wa wb : DE} (ha : PD X n a wa) (hb : PD X n b wb) : PTD X n (.Compare a [.GtE] [b] pos) (wTest (wOp oGe wa wb)) := ptd_cmp op_ge ops_ge (nomark _) ha hb
theorem ptd_eq {wa wb : DE} {k : Nat} (hr : Room k X.A) (ha : PD X n a wa) (hb : PD X n b wb) : PTD X n (.Compare a [.Eq] [b] pos) (wTest (wOp oEq wa wb)) := ptd_cmp (op_eqD hr.units) ops_eq (nomark _) ha hb
theorem ptd_ne {wa wb : DE} {k : Nat} (hr : Room k X.A) (ha : PD X n a wa) (hb : PD X n b wb) : PTD X n (.Compare a [.NotEq] [b] pos) (wTest (wOp oNe wa wb)) := ptd_cmp (op_neD hr.units) ops_ne (nomark _) ha hb
def oIsN : DOp := fun x y Q => match y with
  | .non => Q (.bl (match x with | .non => true | _ => false))
  | _ => False
theorem ops_isN : OpS K (fun x y H Q => y = .non ∧ Q (.bl (decide (x = .non))) H) oIsN := by
  intro F H x y v u Q k s r1 r2 h c
  cases y <;> first | exact (show False from h).elim | skip
  refine ⟨r2, ?_⟩
  cases x with
  | non => obtain rfl := r1; exact c _ H (.bl true) F (.refl _ _) rfl h
  | bl b => obtain rfl := r1; exact c _ H (.bl false) F (.refl _ _) rfl h
  | int b => obtain rfl := r1; exact c _ H (.bl false) F (.refl _ _) rfl h
  | str b => obtain rfl := r1; exact c _ H (.bl false) F (.refl _ _) rfl h
  | tup b => unfold Rep at r1; obtain ⟨_, _, rfl, _⟩ := r1; exact c _ H (.bl false) F (.refl _ _) rfl h
  | lst b => unfold Rep at r1; obtain ⟨_, _, rfl, _⟩ := r1; exact c _ H (.bl false) F (.refl _ _) rfl h
  | dic _ _ => unfold Rep at r1; obtain ⟨_, _, _, rfl, _⟩ := r1; exact c _ H (.bl false) F (.refl _ _) rfl h
  | exc _ _ _ => unfold Rep at r1; obtain ⟨_, _, _, _, rfl, _⟩ := r1; exact c _ H (.bl false) F (.refl _ _) rfl h
  | lamR _ _ => unfold Rep at r1; obtain ⟨_, _, rfl, _⟩ := r1; exact c _ H (.bl false) F (.refl _ _) rfl h
  | lam _ _ _ => unfold Rep at r1; obtain ⟨_, _, _, _, rfl, _⟩ := r1; exact c _ H (.bl false) F (.refl _ _) rfl h
  | ins _ _ _ => unfold Rep at r1; obtain ⟨_, _, _, rfl, _⟩ := r1; exact c _ H (.bl false) F (.refl _ _) rfl h
  | ty _ => obtain rfl := r1; exact c _ H (.bl false) F (.refl _ _) rfl h
  | cls _ => obtain rfl := r1; exact c _ H (.bl false) F (.refl _ _) rfl h
theorem pd_isN {wa wb : DE} (ha : PD X n a wa) (hb : PD X n b wb) : PD X n (.Compare a [.Is] [b] pos) (wOp oIsN wa wb) := pd_cmp op_isN ops_isN (nomark _) ha hb
theorem ptd_isN {wa wb : DE} (ha : PD X n a wa) (hb : PD X n b wb) : PTD X n (.Compare a [.Is] [b] pos) (wTest (wOp oIsN wa wb)) := ptd_cmp op_isN ops_isN (nomark _) ha hb
def oIn (neg : Bool) : DOp := fun x y Q => match y with
  | .str z => match x with
    | .str [c] => Q (.bl (if neg then !decide (c ∈ z) else decide (c ∈ z)))
    | _ => False
  | .lst xs => oInF neg x (.lst xs) Q
  | .tup xs => oInF neg x (.tup xs) Q
  | _ => False
theorem oIn_or (x y : D) (Q : D → Prop) (h : oIn false x y Q) : oInS x y Q ∨ oInF false x y Q := by
  cases y <;> first | exact (show False from h).elim | skip
  · rename_i z
    unfold oIn at h
    dsimp only at h
    split at h
    · exact .inl h
    · exact h.elim
  · exact .inr h
  · exact .inr h
theorem oNotIn_or (x y : D) (Q : D → Prop) (h : oIn true x y Q) : oNotInS x y Q ∨ oInF true x y Q := by
  cases y <;> first | exact (show False from h).elim | skip
  · rename_i z
    unfold oIn at h
    dsimp only at h
    split at h
    · exact .inl h
    · exact h.elim
  · exact .inr h
  · exact .inr h
theorem pd_in {wa wb : DE} (ha : PD X n a wa) (hb : PD X n b wb) (hm : behindInMarks .In b = false := by with_unfolding_all rfl) : PD X n (.Compare a [.In] [b] pos) (wOp (oIn false) wa wb) :=
  pd_cmp (op_in_sign.or op_in_seq) ((ops_inS.or (ops_inF false)).imp oIn_or) hm ha hb
theorem pd_notIn {wa wb : DE} (ha : PD X n a wa) (hb : PD X n b wb) (hm : behindInMarks .NotIn b = false := by with_unfolding_all rfl) : PD X n (.Compare a [.NotIn] [b] pos) (wOp (oIn true) wa wb) :=
  pd_cmp (op_notIn_sign.or op_notIn_seq) ((ops_notInS.or (ops_inF true)).imp oNotIn_or) hm ha hb
def wLen (wr : DE) : DE := fun st Q E => wr st (fun v st1 => match v with
  | .d x => oLen [x] fun z => Q (.d z) st1
  | .loc j => match st1.μ[j]? with
    | some (.lst xs) => Q (.d (.int xs.length)) st1
    | _ => False
  | _ => False) E
theorem pd_len {pp : Pos} (hg : Gl X "len") (hm : X.mg "len" = none) (h : PD X n e we) (he : starEach [e] X.env = (false, eval e X.env) :: starEach [] X.env := by rfl) : PD X n (.Call (.Name "len" pp) [e] [] pos) (wLen we) :=
  pd_of (pe_callB call_len2 hg hm PySem.boot_len (pa_cons h.pe pa_nil he) (by decide) (by decide) he rfl) fun σ H F ρ st Q E R tk hw => by
    refine tE.use R tk hw fun v w1 st1 H1 F1 ρ1 p1 R1 r1 h1 => ?_
    cases w1 with
    | scr _ => exact h1.elim
    | d x =>
      refine calls_len F1 H1 [x] [v] _ _ R1.ok.sub (RepL.one r1) h1 fun z H' d F' g rz q => ?_
      obtain ⟨p3, R3⟩ := R1.grow g
      exact ⟨.d d, st1, F', ρ1, p1.trans p3 R1.ok.dom, R3, rz, q⟩
    | loc j =>
      have h1 : (match st1.μ[j]? with
        | some (.lst xs) => Q (.d (.int xs.length)) st1
        | _ => False) := h1
      split at h1
      · rename_i xs ex
        obtain ⟨q, vs, rfl, e1, f, h3, h4⟩ := loc_lst R1.ok r1 ex
        refine .inl ⟨q, vs, rfl, .inl (.of h3), .d (.int xs.length), st1, F1, ρ1, p1, R1, ?_, h1⟩
        rw [← h4.len]; rfl
      · exact h1.elim
def oListS : DCall := fun xs Q => match xs with
  | [.str x] => x.length ≤ 16777216 ∧ Q (.lst (x.map fun c => .str [c]))
  | [.lst ys] => Q (.lst ys)
  | [.tup ys] => Q (.lst ys)
  | _ => False
theorem vals_at : ∀ {xs : List V} {us : List Value}, xs.length = us.length → (∀ (j : Nat) x u, xs[j]? = some x → us[j]? = some u → RelV x u) → Vals xs us
  | [], [], _, _ => .nil
  | [], _ :: _, h, _ => by simp at h
  | _ :: _, [], h, _ => by simp at h
  | x :: xs, u :: us, h, k => .cons (k 0 x u rfl rfl) (vals_at (by simpa using h) fun j a b e1 e2 => k (j + 1) a b (by simpa using e1) (by simpa using e2))
theorem repL_signs {F : Hp} : ∀ x : List Nat, RepL K F (x.map fun c => .str [c]) (x.map fun c => V.str ⟨#[c]⟩)
  | [] => RepL.nil
  | y :: x => RepL.cons rfl (repL_signs x)
def rListStr : List V → Hp → VK → Prop := fun xs H Q => ∃ x : Str, xs = [.str x] ∧ x.length ≤ sizeLine ∧ ∀ l, H l = none → Q (.ref l) (upd H l (.lst (x.cps.toList.map fun c => .str ⟨#[c]⟩)))
theorem call_listStr (hc : X.calm = true) : CallR X (.type "list") rListStr := by
  intro pins s σ H xs us Q I r h
  obtain ⟨x, rfl, hz, q⟩ := h
  cases r with
  | cons r rr =>
    cases rr
    obtain ⟨t, rfl⟩ := r
    refine call_list_str (I.ok.hd hc) x t (fun h' tk acc' c' hk ho hit => ?_) hz
    have hv : Vals (x.cps.toList.map fun c => V.str ⟨#[c]⟩) acc'.toList := by
      refine vals_at (by simp [hit.1]) fun j x0 u e1 e2 => ?_
      obtain ⟨c, tk', h1, h2⟩ := hit.2 j u (by simpa using e2)
      rw [List.getElem?_map] at e1
      have h1' : x.cps.toList[j]? = some c := by simpa using h1
      rw [h1'] at e1
      have e1 : V.str ⟨#[c]⟩ = x0 := Option.some.inj e1
      subst e1
      exact ⟨tk', h2⟩
    refine ⟨.ref s.heap.objs.size, upd H s.heap.objs.size (.lst (x.cps.toList.map fun c => .str ⟨#[c]⟩)), I.laid (t' := tk) hk (Nat.le_refl _) ⟨by rw [List.length_map, Array.length_toList]; exact hz, acc'.toList, c', hv, by simpa using ho⟩, rfl, q _ (I.hok.fresh (Nat.le_refl _))⟩
theorem calls_listS : CallS K (fun xs H Q => rListStr xs H Q ∨ ∃ p ys, xs = [.ref p] ∧ (SqL K H p ys ∨ SqT K H p ys) ∧ ∀ l, H l = none → Q (.ref l) (upd H l (.lst ys))) oListS := by
  refine (CallS.or (o := fun xs Q => match xs with
    | [.str x] => x.length ≤ 16777216 ∧ Q (.lst (x.map fun c => .str [c]))
    | _ => False) ?_ calls_listOf).imp fun x Q h => ?_
  · intro F H xs vs Q k s r h c
    split at h
    · rename_i x
      obtain ⟨v, rfl, q⟩ := repL1 r
      obtain rfl := q
      refine ⟨mkS x, rfl, by rw [mkS_len, sizeLine_eq]; exact h.1, fun l hl => ?_⟩
      have g : Grow F H (upd F l (.lst (x.map fun c => .str ⟨#[c]⟩))) (upd H l (.lst (x.map fun c => .str ⟨#[c]⟩))) := .one hl
      refine c _ _ (.lst (x.map fun c => .str [c])) _ g ?_ h.2
      unfold Rep
      exact ⟨l, _, rfl, upd_same, repL_signs x⟩
    · exact h.elim
  · unfold oListS at h
    split at h
    · exact .inl h
    · exact .inr h
    · exact .inr h
    · exact h.elim
theorem pd_list {pp : Pos} {wa : DA} (hc : X.calm = true) (hg : Gl X "list") (hm : X.mg "list" = none) (ha : PAD X n (e :: es) wa) (he : starEach (e :: es) X.env = (false, eval e X.env) :: starEach es X.env := by rfl) (hpl : (backTo pos (starEach es X.env)).any (·.1) = false := by rfl) :
    PD X n (.Call (.Name "list" pp) (e :: es) [] pos) (wCall oListS wa) := pd_callTy (callR_or (call_listStr hc) call_list_of) calls_listS hg hm (by decide +kernel) ha (by decide) (by decide) he hpl
end
end Dl
namespace Dl
open PySem PySem.Spec PyProof.Rows L2
variable [TheW]
section
variable {X : Cx} {n : En} {a b e o : Expr} {es : List Expr} {pos p : Pos}
theorem pd_gStr {x z : Str} (l : List Nat) (hg : Gl X x) (hm : ∃ t, X.mg x = some (.str z t)) (h : z = mkS l := by decide +kernel) (hd : (x == ("__debug__" : Str)) = false := by decide) : PD X n (.Name x pos) (wC (.str l)) := by
  obtain ⟨t, hm⟩ := hm
  exact pd_glob (v := .str z) hg hm ⟨t, rfl⟩ (fun _ => by subst h; rfl) hd
theorem pd_gInt {x : Str} {i : Int} (hg : Gl X x) (hm : ∃ t, X.mg x = some (.int i t)) (hd : (x == ("__debug__" : Str)) = false := by decide) : PD X n (.Name x pos) (wC (.int i)) := by
  obtain ⟨t, hm⟩ := hm
  exact pd_glob (v := .int i) hg hm ⟨t, rfl⟩ (fun _ => rfl) hd
theorem pd_gTy {x : Str} {T : String} (hg : Gl X x) (hm : X.mg x = none) (hv : bootBuiltins x = some (.type T)) (hn : x ≠ "__name__" := by decide) (hd : (x == ("__debug__" : Str)) = false := by decide) : PD X n (.Name x pos) (wC (.ty T)) :=
  pd_const (pe_bltn (v := .ty T) hg hm hv rfl hn hd) fun _ => rfl
def oMul : DOp := oI (fun i j => .int (i * j)) fun i j => CMul i j ∨ CMulW i j
theorem pd_mul {wa wb : DE} (ha : PD X n a wa) (hb : PD X n b wb) : PD X n (.BinOp a .Mult b pos) (wOp oMul wa wb) :=
  pd_op (op_mul.or op_mulW) (((ops_I (g' := fun i j => .int (i * j)) fun _ _ _ => rfl).or (ops_I (g' := fun i j => .int (i * j)) fun _ _ _ => rfl)).imp fun x y Q h => by
    unfold oMul oI at h
    split at h
    · exact h.1.elim (fun z => .inl ⟨z, h.2⟩) (fun z => .inr ⟨z, h.2⟩)
    · exact h.elim) ha hb
theorem RepWL.app {K : PySem.W.Frag} {F : Hp} {ρ : List Addr} : ∀ {ws zs : List W} {vs us : List V}, RepWL K F ρ ws vs → RepWL K F ρ zs us → RepWL K F ρ (ws ++ zs) (vs ++ us)
  | [], _, _, _, h, g => by cases h; exact g
  | w :: ws, _, _, _, h, g => by
    obtain ⟨v, r, rfl, q, t⟩ := h
    exact ⟨v, _, rfl, q, t.app g⟩
end
structure Df (K : PySem.W.Frag) (mg : Str → Option Value) (x : Str) (st : Stmt) : Prop where
  ex : ∃ f fd, FunD K x x (defArgs st) (defBody st) (defScope st) [] [] f fd ∧ mg x = some (.ref f)
section
variable {P : Program} {w : World} {K : PySem.W.Frag} {mg : Str → Option Value} {base : Heap} {x : Str} {st : Stmt} {N ps : List Str} {k m : Nat} {c : DSp} {wb : DS}
abbrev BodyD (P : Program) (w : World) (K : PySem.W.Frag) (mg : Str → Option Value) (base : Heap) (x : Str) (st : Stmt) (N : List Str) (k : Nat) (wb : DS) : Prop :=
  ∀ (f : Addr) (cdv : Value) (A : Around) (outer : List Env) (s : Shared) (H : Hp) (E : XK) (n : En), Room k (A.deeper (envOfC x (defScope st) s.heap.objs.size f cdv)) → PSSD (cxD P w K mg base N x (defScope st) f cdv A outer s H E) n (defBody st) wb
theorem fnD_of (D : Df K mg x st) (S : FnScope N ps (defScope st)) (hb : BodyD P w K mg base x st N k wb)
    (hc : ∀ ws μ Q E, ws.length = ps.length → c ws μ Q E → wb { nx := fun st => Q (.d .non) st.μ, rt := Q, ex := fun x st => E x st.μ } ⟨startD N.length ws, μ⟩)
    (bd : ∀ (kV doc pm : Value) (an : Option Addr) (cdv ct : Value) (us : List Value), us.length = ps.length → bindArgs (PySem.W.fnOf x x (defArgs st) (defBody st) (defScope st) .none kV doc pm an cdv ct) ⟨us, []⟩ = pure (ps.zip us)) : FnD P w K mg base x (k + 1) ps.length c := by
  obtain ⟨f, fd, F, hm⟩ := D.ex
  exact ⟨f, fd, ps, ok_ofD F S rfl (fun cdv A outer s H E n hr => hb f cdv A outer s H E n hr) hc, hm, F.kp, F.bindsN bd⟩
end
end Dl
namespace Dl
open PySem PySem.Spec PyProof.Rows L2 RZ
variable [TheW]
section
variable {X : Cx} {n : En} {a b e o tg : Expr} {es : List Expr} {pos pp : Pos} {wa : DA}
theorem pd_intI (hg : Gl X "int") (hm : X.mg "int" = none) (ha : PAD X n (e :: es) wa) (he : starEach (e :: es) X.env = (false, eval e X.env) :: starEach es X.env := by rfl) (hpl : (backTo pos (starEach es X.env)).any (·.1) = false := by rfl) :
    PD X n (.Call (.Name "int" pp) (e :: es) [] pos) (wCall oIntI wa) := pd_callTy call_int1 calls_int hg hm (by decide +kernel) ha (by decide) (by decide) he hpl
theorem pd_all (hc : X.calm = true) (hg : Gl X "all") (hm : X.mg "all" = none) (ha : PAD X n (e :: es) wa) (he : starEach (e :: es) X.env = (false, eval e X.env) :: starEach es X.env := by rfl) (hpl : (backTo pos (starEach es X.env)).any (·.1) = false := by rfl) :
    PD X n (.Call (.Name "all" pp) (e :: es) [] pos) (wCall oAll wa) := pd_callB (cr_all hc) calls_all hg hm (by decide +kernel) ha (by decide) (by decide) he hpl
theorem pd_isi {ans : Ty → Ty → Option Bool} (A : AnsOk X.K ans) (hg : Gl X "isinstance") (hm : X.mg "isinstance" = none) (ha : PAD X n (e :: es) wa) (he : starEach (e :: es) X.env = (false, eval e X.env) :: starEach es X.env := by rfl) (hpl : (backTo pos (starEach es X.env)).any (·.1) = false := by rfl) :
    PD X n (.Call (.Name "isinstance" pp) (e :: es) [] pos) (wCall (oIsi ans) wa) := pd_callB call_isi2 (calls_isi A) hg hm (by decide +kernel) ha (by decide) (by decide) he hpl
def zipD (xs ys : List D) : List D := List.zipWith (fun x y => .tup [x, y]) xs ys
theorem rep_pair {K : PySem.W.Frag} {F H : Hp} {T : Addr} {x y : V} {d e : D} (s : SubH F H) (h : H T = none) (r1 : Rep K F d x) (r2 : Rep K F e y) : Grow F H (upd F T (.tup [x, y])) (upd H T (.tup [x, y])) ∧ Rep K (upd F T (.tup [x, y])) (.tup [d, e]) (.ref T) := by
  have g : Grow F H (upd F T (.tup [x, y])) (upd H T (.tup [x, y])) := .one h
  refine ⟨g, ?_⟩
  unfold Rep
  exact ⟨T, [x, y], rfl, .inl upd_same, RepL.cons (Rep.sub (g.sub s) _ _ r1) (RepL.one (Rep.sub (g.sub s) _ _ r2))⟩
theorem zipD_get {xs ys : List D} {i : Nat} {d e : D} (h1 : xs[i]? = some d) (h2 : ys[i]? = some e) : (zipD xs ys)[i]? = some (.tup [d, e]) := by
  unfold zipD
  rw [List.getElem?_zipWith, h1, h2]
theorem itd_zip {K : PySem.W.Frag} {F0 : Hp} {p q : Addr} {vs us : List V} {xs ys : List D} (h1 : F0 p = some (.lst vs)) (h2 : F0 q = some (.lst us)) (r1 : RepL K F0 xs vs) (r2 : RepL K F0 ys us) : ItD K F0 (Itz K p q) (zipD xs ys) where
  go := fun i F H s1 s2 hi => by
    have hi : i < min xs.length ys.length := by simpa [zipD] using hi
    obtain ⟨v, e, _⟩ := r1.get (i := i) (d := xs[i]'(by omega)) (by simp)
    obtain ⟨u, e', _⟩ := r2.get (i := i) (d := ys[i]'(by omega)) (by simp)
    exact ⟨vs, us, v, u, .inl (.of (s2 _ _ (s1 _ _ h1))), .inl (.of (s2 _ _ (s1 _ _ h2))), e, e'⟩
  yld := fun i F H x H' s1 s2 hi y => by
    obtain ⟨T, v, u, rfl, hT, rfl, y1, y2⟩ := y
    obtain ⟨d, e, q⟩ := r1.getV (y1 vs (.inl (.of (s2 _ _ (s1 _ _ h1)))))
    obtain ⟨d', e', q'⟩ := r2.getV (y2 us (.inl (.of (s2 _ _ (s1 _ _ h2)))))
    obtain ⟨g, r⟩ := rep_pair s2 hT (Rep.sub s1 _ _ q) (Rep.sub s1 _ _ q')
    exact ⟨_, _, zipD_get e e', g, r⟩
  stop := fun i F H s1 s2 hi => ⟨vs, us, .inl (.of (s2 _ _ (s1 _ _ h1))), .inl (.of (s2 _ _ (s1 _ _ h2))), by
    have hi : min xs.length ys.length ≤ i := by simpa [zipD] using hi
    rw [← r1.len, ← r2.len]; omega⟩
theorem itd_zipT {K : PySem.W.Frag} {F0 : Hp} {p q : Addr} {vs us : List V} {xs ys : List D} (h1 : TupAt K F0 p vs) (h2 : TupAt K F0 q us) (r1 : RepL K F0 xs vs) (r2 : RepL K F0 ys us) : ItD K F0 (ItzT K p q) (zipD xs ys) where
  go := fun i F H s1 s2 hi => by
    have hi : i < min xs.length ys.length := by simpa [zipD] using hi
    obtain ⟨v, e, _⟩ := r1.get (i := i) (d := xs[i]'(by omega)) (by simp)
    obtain ⟨u, e', _⟩ := r2.get (i := i) (d := ys[i]'(by omega)) (by simp)
    exact ⟨vs, us, v, u, (h1.sub s1).sq s2, (h2.sub s1).sq s2, e, e'⟩
  yld := fun i F H x H' s1 s2 hi y => by
    obtain ⟨T, v, u, rfl, hT, rfl, y1, y2⟩ := y
    obtain ⟨d, e, q⟩ := r1.getV (y1 vs ((h1.sub s1).sq s2))
    obtain ⟨d', e', q'⟩ := r2.getV (y2 us ((h2.sub s1).sq s2))
    obtain ⟨g, r⟩ := rep_pair s2 hT (Rep.sub s1 _ _ q) (Rep.sub s1 _ _ q')
    exact ⟨_, _, zipD_get e e', g, r⟩
  stop := fun i F H s1 s2 hi => ⟨vs, us, (h1.sub s1).sq s2, (h2.sub s1).sq s2, by
    have hi : min xs.length ys.length ≤ i := by simpa [zipD] using hi
    rw [← r1.len, ← r2.len]; omega⟩
def wZip (wa : DA) : DI := fun st Q E => wa st (fun ws st1 => match ws with
  | [.d (.lst xs), .d (.lst ys)] => Q (zipD xs ys) st1
  | [.d (.tup xs), .d (.tup ys)] => Q (zipD xs ys) st1
  | _ => False) E
theorem pid_zip {elts : List Expr} {kk : Nat} {tpos : Pos} (hg : Gl X "zip") (hm : X.mg "zip" = none) (ha : PAD X n [a, b] wa) (hs : starEach [a, b] X.env = (false, eval a X.env) :: starEach [b] X.env := by rfl) (hpl : (backTo pos (starEach [b] X.env)).any (·.1) = false := by rfl) :
    PID X n (.Tuple elts kk tpos) (.Call (.Name "zip" pp) [a, b] [] pos) (wZip wa) :=
  pid_of (pi_zipA hg hm ha.pa hs hpl) fun σ H F ρ st Q E R tk hw => by
    refine tA.use R tk hw fun vs ws st1 H1 F1 ρ1 p1 R1 r1 h1 => ?_
    split at h1
    · rename_i xs ys
      obtain ⟨v, r, rfl, q1, u, r, rfl, q2, rfl⟩ := r1
      have q1 : Rep X.K F1 (.lst xs) v := q1
      have q2 : Rep X.K F1 (.lst ys) u := q2
      unfold Rep at q1 q2
      obtain ⟨p, vs, rfl, e1, s1⟩ := q1
      obtain ⟨q, us, rfl, e2, s2⟩ := q2
      exact ⟨p, q, vs, us, rfl, .inl ⟨.inl (.of (R1.ok.sub _ _ e1)), .inl (.of (R1.ok.sub _ _ e2)), _, st1, F1, ρ1, p1, R1, itd_zip e1 e2 s1 s2, h1⟩⟩
    · rename_i xs ys
      obtain ⟨v, r, rfl, q1, u, r, rfl, q2, rfl⟩ := r1
      have q1 : Rep X.K F1 (.tup xs) v := q1
      have q2 : Rep X.K F1 (.tup ys) u := q2
      unfold Rep at q1 q2
      obtain ⟨p, vs, rfl, e1, s1⟩ := q1
      obtain ⟨q, us, rfl, e2, s2⟩ := q2
      exact ⟨p, q, vs, us, rfl, .inr ⟨e1.sq R1.ok.sub, e2.sq R1.ok.sub, _, st1, F1, ρ1, p1, R1, itd_zipT e1 e2 s1 s2, h1⟩⟩
    · exact h1.elim
theorem _root_.Dl.PD.imp {w w' : DE} (h : PD X n e w) (i : ∀ st Q E, w' st Q E → w st Q E) : PD X n e w' := ⟨fun pins s σ H F ρ st Q E I R tk hw => h.run pins s σ H F ρ st Q E I R tk (i st Q E hw)⟩
def wCalN (m : Nat) (c : DSp) (wa : DA) : DE := fun st Q E => wa st (fun ws st1 => ws.length = m ∧ wFn c ws st1 Q E) E
theorem pd_calN {x : Str} {k m : Nat} {c : DSp} {wa : DA} {p : Pos} (D : FnD X.prog X.w X.K X.mg X.base x k m c) (hr : Room k X.A) (hg : Gl X x) (ha : PAD X n (e :: es) wa) (hm : (e :: es).length = m := by rfl) (hdb : (x == ("__debug__" : Str)) = false := by decide)
    (he : starEach (e :: es) X.env = (false, eval e X.env) :: starEach es X.env := by rfl) (hpl : (backTo pos (starEach es X.env)).any (·.1) = false := by rfl) : PD X n (.Call (.Name x p) (e :: es) [] pos) (wCalN m c wa) := by
  obtain ⟨f, fd, ps, Fn, hmg, hk, hb⟩ := D.ex
  refine ⟨fun pins s σ H F ρ st Q E I R tk hw => ?_⟩
  refine wpAny_Call_Name_kw (ld_glob I hg hmg ?_ hdb)
  refine PySem.W.callWith_K (h₀ := X.base) I.ok.mod.kin hk (thn (ha.run pos pins s σ H F ρ st _ E I R tk hw) fun us s1 ⟨vs, ws, st1, H1, F1, ρ1, I1, r, p1, R1, rw, q⟩ => ⟨I1.kIn, ?_⟩) he hpl
  refine thn (run_fnS Fn hr hb (passAt tk σ) I1 r (call_sp R1 rw q.1 q.2 fun cls d H' z => z)) fun u s2 ⟨v, H2, I2, r2, w', st', F', ρ', p2, R2, rw2, q2⟩ => ?_
  exact ⟨v, w', st', H2, F', ρ', I2, r2, p1.trans p2 R1.ok.dom, R2, rw2, q2⟩
end
end Dl
namespace Dl
open PySem PySem.Spec PyProof.Rows L2
variable [TheW]
theorem wForL_ind {g : DG} {tb : DS} {B : DEnds} (I : List D → Dst → Prop) (end_ : ∀ st, I [] st → B.nx st)
    (step : ∀ x xs st, I (x :: xs) st → ∀ K : Dst → Prop, (∀ st', I xs st' → K st') → g (.d x) st (fun st1 => tb { B with nx := K, ct := K, bk := B.nx } st1) B.ex) : ∀ xs st, I xs st → wForL g tb B xs st
  | [], st, h => end_ st h
  | x :: xs, st, h => step x xs st h _ fun st' h' => wForL_ind I end_ step xs st' h'
theorem eqI {i j : Int} {Q : D → Prop} (h : Q (.bl (decide (i = j)))) : oEq (.int i) (.int j) Q := ⟨_, _, rfl, rfl, rfl, rfl, h⟩
theorem isi1 (t T : String) (b : Bool) {tbl : List ((Ty × Ty) × Bool)} {x : D} {Q : D → Prop} (ht : tyOf x = some (.ty t)) (h : ansB (.ty t) (.ty T) = some b) (q : Q (.bl b)) : oIsi (ansW tbl) [x, .ty T] Q := by
  exact ⟨_, _, b, ht, rfl, h, q⟩
theorem isi2 (t T U : String) (b c : Bool) {tbl : List ((Ty × Ty) × Bool)} {x : D} {Q : D → Prop} (ht : tyOf x = some (.ty t)) (h : ansB (.ty t) (.ty T) = some b) (h2 : ansB (.ty t) (.ty U) = some c) (q : Q (.bl (b || c))) : oIsi (ansW tbl) [x, .tup [.ty T, .ty U]] Q := by
  refine ⟨.ty t, [.ty T, .ty U], b || (c || false), ht, rfl, List.cons_ne_nil _ _, ?_, by rw [Bool.or_false]; exact q⟩
  have h : ansW tbl (.ty t) (.ty T) = some b := h
  have h2 : ansW tbl (.ty t) (.ty U) = some c := h2
  simp only [List.foldr_cons, List.foldr_nil, h, h2]
theorem neI {i j : Int} {Q : D → Prop} (h : Q (.bl (!decide (i = j)))) : oNe (.int i) (.int j) Q := ⟨_, _, rfl, rfl, rfl, rfl, h⟩
theorem eqB {i j : Bool} {Q : D → Prop} (h : Q (.bl (i == j))) : oEq (.bl i) (.bl j) Q := by
  refine ⟨_, _, rfl, rfl, rfl, rfl, ?_⟩
  cases i <;> cases j <;> exact h
theorem neB {i j : Bool} {Q : D → Prop} (h : Q (.bl (i != j))) : oNe (.bl i) (.bl j) Q := by
  refine ⟨_, _, rfl, rfl, rfl, rfl, ?_⟩
  cases i <;> cases j <;> exact h
theorem atI_nat {α : Type} {xs : List α} {i : Int} (h0 : 0 ≤ i) (h1 : i < xs.length) : ∃ x, atI xs i = some x ∧ xs[i.toNat]? = some x := by
  have hl : i.toNat < xs.length := by omega
  refine ⟨xs[i.toNat], ?_, by simp [hl]⟩
  unfold atI ixN
  rw [if_pos h0, if_pos h1]
  simp [hl]
theorem atI_map {xs : List Int} {i : Int} (h0 : 0 ≤ i) (h1 : i < xs.length) : ∃ x, atI (xs.map D.int) i = some (.int x) := by
  obtain ⟨x, e, e2⟩ := atI_nat (xs := xs.map D.int) h0 (by simpa using h1)
  rw [List.getElem?_map] at e2
  cases q : xs[i.toNat]? with
  | none => rw [q] at e2; cases e2
  | some y => rw [q] at e2; cases e2; exact ⟨y, e⟩
def BagOk (o : O) : Prop := ∃ (xs : List Int) (i j k l : Int), o = .lst [.lst (xs.map .int), .int i, .int j, .int k, .int l] ∧ 0 ≤ i ∧ 0 ≤ j ∧ 0 ≤ k ∧ k < 2147483629
def spDat (R : List D → (D → Prop) → (Ex → Prop) → Prop) : DSp := fun ws μ Q E => ∃ ds, ws = ds.map .d ∧ R ds (fun d => Q (.d d) μ) (fun x => E x μ)
def spBag (R : List D → (D → Prop) → (Ex → Prop) → Prop) : DSp := fun ws μ Q E => ∃ ds b r, ws = .loc 0 :: ds.map .d ∧ μ = b :: r ∧ BagOk b ∧ R ds (fun d => ∀ b', BagOk b' → Q (.d d) (b' :: r)) (fun x => ∀ b', BagOk b' → E x (b' :: r))
theorem locs_d : ∀ ds : List D, locs (ds.map W.d) = []
  | [] => rfl
  | d :: ds => locs_d ds
theorem ren_d (ls : List Nat) : ∀ ds : List D, (ds.map W.d).map (ren ls) = ds.map W.d
  | [] => rfl
  | d :: ds => congrArg (W.d d :: ·) (ren_d ls ds)
theorem wFn_dat {R : List D → (D → Prop) → (Ex → Prop) → Prop} {ws : List W} {st : Dst} {Q : DQ} {E : DX} (ds : List D) (e : ws = ds.map .d) (h : R ds (fun d => Q (.d d) st) (fun x => E x st)) : wFn (spDat R) ws st Q E := by
  subst e
  have e : ({ st with μ := st.μ ++ [] } : Dst) = st := by rw [List.append_nil]
  refine ⟨ds, by rw [locs_d, ren_d], ?_⟩
  rw [locs_d]
  show R ds (fun d => Q (.d d) { st with μ := st.μ ++ [] }) (fun x => E x { st with μ := st.μ ++ [] })
  rw [e]
  exact h
theorem wFn_bag {R : List D → (D → Prop) → (Ex → Prop) → Prop} {ws : List W} {st : Dst} {Q : DQ} {E : DX} (j : Nat) (ds : List D) (b : O) (e : ws = .loc j :: ds.map .d) (hb : st.μ[j]? = some b) (ok : BagOk b)
    (h : R ds (fun d => ∀ b', BagOk b' → Q (.d d) { st with μ := st.μ.set j b' }) (fun x => ∀ b', BagOk b' → E x { st with μ := st.μ.set j b' })) : wFn (spBag R) ws st Q E := by
  subst e
  have e1 : locs (W.loc j :: ds.map W.d) = [j] := by
    show (if j ∈ locs (ds.map W.d) then locs (ds.map W.d) else j :: locs (ds.map W.d)) = [j]
    rw [locs_d]; simp
  have ej : st.μ.getD j .dead = b := by rw [List.getD_eq_getElem?_getD, hb]; rfl
  refine ⟨ds, b, [], ?_, ?_, ok, ?_⟩
  · rw [e1]
    show W.loc ([j].idxOf j) :: _ = _
    rw [ren_d]; simp
  · rw [e1]
    show [st.μ.getD j .dead] = [b]
    rw [ej]
  · rw [e1]
    have e2 : ∀ b', putB st.μ [j] [b'] = st.μ.set j b' := fun b' => by
      show (st.μ ++ []).set j b' = _
      rw [List.append_nil]
    show R ds (fun d => ∀ b', BagOk b' → Q (.d d) { st with μ := putB st.μ [j] [b'] }) (fun x => ∀ b', BagOk b' → E x { st with μ := putB st.μ [j] [b'] })
    simp only [e2]
    exact h
def sp_law_cells : DSp := fun ws μ Q _ => ∃ xs : List Int, ws = [.scr xs] ∧ ∀ b, BagOk b → Q (.loc μ.length) (μ ++ [b])
theorem wFn_cells {ws : List W} {st : Dst} {Q : DQ} {E : DX} (xs : List Int) (e : ws = [.scr xs]) (h : ∀ b, BagOk b → Q (.loc st.μ.length) { st with μ := st.μ ++ [b] }) : wFn sp_law_cells ws st Q E := by
  subst e
  exact ⟨xs, rfl, fun b hb => h b hb⟩
def sp_law_draw : DSp := spBag fun ds Q _ => ∃ k : Int, ds = [.int k] ∧ 0 < k ∧ k < 2 ^ 62 ∧ ∀ d : Int, 0 ≤ d → d < k → Q (.int d)
def lenD : D → Option Nat
  | .lst xs => some xs.length
  | .tup xs => some xs.length
  | .str x => if x.length ≤ 16777216 then some x.length else none
  | _ => none
def sp_law_any : DSp := spBag fun ds Q _ => ∃ (x : D) (m : Nat), ds = [x] ∧ lenD x = some m ∧ 0 < m ∧ (m : Int) < 2 ^ 62 ∧ ∀ i : Nat, i < m → oIx x (.int i) Q
def wb_law_cells : DS := (wSeq (wAsg (wC (.int 5605)) (gN 1))
  (wSeq (wFor (wIt (wSlScr (wVar 0) wNoPart (wPart (wC (.int 63))))) (gN 2) (wAsg (wOp oMod (wCall oIntI (wCons (wOp oAdd (wOp oAdd (wOp oMul (wVar 1) (wC (.int 48271))) (wOp oMod (wCall oIntI (wCons (wVar 2) wNil)) (wC (.int 2147483543)))) (wC (.int 17))) wNil)) (wC (.int 2147483629))) (gN 1)))
  (wRet (wLstN (wCons (wCall oListS (wCons (wSlScr (wVar 0) wNoPart (wPart (wC (.int 63)))) wNil)) (wCons (wC (.int 0)) (wCons (wC (.int 0)) (wCons (wVar 1) (wCons (wC (.int 0)) wNil)))))))))
def wb_draw2 : DS := (wSeq (wIfS (wTest (wOp oGt (wIx (wVar 0) (wC (.int 2))) (wC (.int 0)))) (wSeq (wAsg (wOp oMod (wCall oIntI (wCons (wIx (wVar 0) (wC (.int 2))) wNil)) (wVar 1)) (gN 3))
  (wSeq (wAsg (wOp oFdiv (wIx (wVar 0) (wC (.int 2))) (wVar 1)) (gSub (wVar 0) (wC (.int 2))))
  (wRet (wVar 3)))) wNext)
  (wSeq (wAsg (wIx (wVar 0) (wC (.int 3))) (gN 4))
  (wSeq (wAsg (wOp oMod (wCall oIntI (wCons (wOp oAdd (wOp oAdd (wOp oAdd (wOp oPow (wVar 4) (wC (.int 3))) (wOp oMul (wVar 4) (wC (.int 40503)))) (wOp oMul (wIx (wVar 0) (wC (.int 4))) (wC (.int 1299721)))) (wC (.int 12345))) wNil)) (wC (.int 2147483629))) (gSub (wVar 0) (wC (.int 3))))
  (wRet (wOp oMod (wCall oIntI (wCons (wOp oAdd (wOp oFdiv (wIx (wVar 0) (wC (.int 3))) (wC (.int 83))) (wOp oMul (wOp oMod (wCall oIntI (wCons (wIx (wVar 0) (wC (.int 3))) wNil)) (wC (.int 7919))) (wC (.int 53)))) wNil)) (wVar 1))))))
def wb_law_draw : DS := (wSeq (wAsg (wOp oAdd (wIx (wVar 0) (wC (.int 4))) (wC (.int 1))) (gSub (wVar 0) (wC (.int 4))))
  (wSeq (wIfS (wAndT (wTest (wOp oEq (wIx (wVar 0) (wC (.int 2))) (wC (.int 0)))) (wTest (wOp oLt (wIx (wVar 0) (wC (.int 1))) (wLen (wIx (wVar 0) (wC (.int 0))))))) (wSeq (wAsg (wIx (wIx (wVar 0) (wC (.int 0))) (wIx (wVar 0) (wC (.int 1)))) (gN 2))
  (wSeq (wAsg (wOp oAdd (wIx (wVar 0) (wC (.int 1))) (wC (.int 1))) (gSub (wVar 0) (wC (.int 1))))
  (wIfS (wTest (wOp oGe (wVar 2) (wOp oPow (wC (.int 10)) (wC (.int 18))))) (wAsg (wVar 2) (gSub (wVar 0) (wC (.int 2)))) (wAsg (wOp oMod (wCall oIntI (wCons (wOp oAdd (wOp oAdd (wOp oMul (wIx (wVar 0) (wC (.int 3))) (wC (.int 39373))) (wOp oMul (wOp oMod (wCall oIntI (wCons (wVar 2) wNil)) (wC (.int 2147483543))) (wC (.int 40692)))) (wC (.int 31))) wNil)) (wC (.int 2147483629))) (gSub (wVar 0) (wC (.int 3))))))) wNext)
  wb_draw2))
def wb_law_any (c : DSp) : DS := (wRet (wIx (wVar 1) (wCalN 2 c (wCons (wVar 0) (wCons (wLen (wVar 1)) wNil)))))
theorem bag_new (xs : List Int) {k : Int} (h0 : 0 ≤ k) (h1 : k < 2147483629) : BagOk (.lst [.lst (xs.map .int), .int 0, .int 0, .int k, .int 0]) := ⟨xs, 0, 0, k, 0, rfl, by omega, by omega, h0, h1⟩
theorem cutD_map (xs : List Int) (lo hi : Option Int) : cutD (xs.map D.int) lo hi = (cutD xs lo hi).map D.int := by
  unfold cutD
  rw [List.length_map, ← List.map_drop, ← List.map_take]
theorem pure_cells (ws : List W) (μ : List O) (Q : W → List O → Prop) (E : Ex → List O → Prop) (h : sp_law_cells ws μ Q E) : wb_law_cells { nx := fun st => Q (.d .non) st.μ, rt := Q, ex := fun x st => E x st.μ } ⟨startD 3 ws, μ⟩ := by
  obtain ⟨xs, rfl, hq⟩ := h
  have key : ∀ (ys : List D) (st : Dst), (∃ zs : List Int, ys = zs.map D.int) ∧ (∃ k u, st = ⟨[some (.scr xs), some (.d (.int k)), u], μ⟩ ∧ 0 ≤ k ∧ k < 2147483629) →
      wForL (gN 2) (wAsg (wOp oMod (wCall oIntI (wCons (wOp oAdd (wOp oAdd (wOp oMul (wVar 1) (wC (.int 48271))) (wOp oMod (wCall oIntI (wCons (wVar 2) wNil)) (wC (.int 2147483543)))) (wC (.int 17))) wNil)) (wC (.int 2147483629))) (gN 1))
        { nx := (wRet (wLstN (wCons (wCall oListS (wCons (wSlScr (wVar 0) wNoPart (wPart (wC (.int 63)))) wNil)) (wCons (wC (.int 0)) (wCons (wC (.int 0)) (wCons (wVar 1) (wCons (wC (.int 0)) wNil))))))) { nx := fun st => Q (.d .non) st.μ, rt := Q, ex := fun x st => E x st.μ }, rt := Q, ex := fun x st => E x st.μ } ys st := by
    refine wForL_ind (fun ys st => (∃ zs : List Int, ys = zs.map D.int) ∧ (∃ k u, st = ⟨[some (.scr xs), some (.d (.int k)), u], μ⟩ ∧ 0 ≤ k ∧ k < 2147483629)) ?_ ?_
    · rintro st ⟨_, k, u, rfl, h0, h1⟩
      refine ⟨by simp, ?_⟩
      show Q (.loc μ.length) (μ ++ [.lst [.lst (cutD (xs.map D.int) none (some 63)), .int 0, .int 0, .int k, .int 0]])
      rw [cutD_map]
      exact hq _ (bag_new _ h0 h1)
    · rintro x ys st ⟨⟨zs, e⟩, k, u, rfl, h0, h1⟩ K hK
      cases zs with
      | nil => cases e
      | cons z zs =>
        cases e
        refine ⟨.inl (.inr ⟨by decide, by decide⟩), (by decide : (0 : Int) < 2147483543), (by decide : (0 : Int) < 2147483629), ?_⟩
        refine hK _ ⟨⟨zs, rfl⟩, _, _, rfl, Int.emod_nonneg _ (by decide), Int.emod_lt_of_pos _ (by decide)⟩
  exact ⟨key _ _ ⟨⟨cutD xs none (some 63), cutD_map _ _ _⟩, 5605, none, rfl, by decide, by decide⟩⟩
theorem pow_small {k : Int} (h0 : 0 ≤ k) (h1 : k < 2147483629) : CPow k 3 := ⟨by decide, by decide, by omega⟩
theorem pure_draw (ws : List W) (μ : List O) (Q : W → List O → Prop) (E : Ex → List O → Prop) (h : sp_law_draw ws μ Q E) : wb_law_draw { nx := fun st => Q (.d .non) st.μ, rt := Q, ex := fun x st => E x st.μ } ⟨startD 5 ws, μ⟩ := by
  obtain ⟨ds, b, r, rfl, rfl, ⟨xs, i, j, k, l, rfl, hi, hj, hk0, hk1⟩, ⟨n, rfl, n0, n1, hq⟩⟩ := h
  -- behind the first if
  have tail : ∀ (i j k l : Int) (u : Option W), 0 ≤ i → 0 ≤ j → 0 ≤ k → k < 2147483629 →
      wb_draw2
        { nx := fun st => Q (.d .non) st.μ, rt := Q, ex := fun x st => E x st.μ } ⟨[some (.loc 0), some (.d (.int n)), u, none, none], .lst [.lst (xs.map .int), .int i, .int j, .int k, .int l] :: r⟩ := by
    intro i j k l u hi hj hk0 hk1
    have d1 : CDivW j n := ⟨n0, by
      have e : n.natAbs < 2 ^ 62 := by omega
      have := PySem.Flt.log2_lt_of (by decide) e
      omega⟩
    have last : ∀ k : Int, ∀ l : Int, 0 ≤ k → k < 2147483629 → (CDivW k 83 ∧ (0 : Int) < 7919 ∧ (CMul (k % 7919) 53 ∨ CMulW (k % 7919) 53) ∧ 0 < n ∧ Q (.d (.int ((k / 83 + k % 7919 * 53) % n))) (.lst [.lst (xs.map .int), .int i, .int j, .int k, .int l] :: r)) := fun k l hk0 hk1 =>
      ⟨⟨by decide, by decide⟩, by decide, .inl (.inr ⟨by decide, by decide⟩), n0, hq _ (Int.emod_nonneg _ (by omega)) (Int.emod_lt_of_pos _ n0) _ ⟨xs, i, j, k, l, rfl, hi, hj, hk0, hk1⟩⟩
    refine br (fun hj0 => ?_) fun hj0 => ?_
    · exact ⟨n0, d1, hq _ (Int.emod_nonneg _ (by omega)) (Int.emod_lt_of_pos _ n0) _ ⟨xs, i, j / n, k, l, rfl, hi, Int.ediv_nonneg hj (by omega), hk0, hk1⟩⟩
    · exact ⟨pow_small hk0 hk1, .inl (.inr ⟨by decide, by decide⟩), .inl (.inr ⟨by decide, by decide⟩), (by decide : (0:Int) < 2147483629), last _ _ (Int.emod_nonneg _ (by decide)) (Int.emod_lt_of_pos _ (by decide))⟩
  refine eqI ?_
  refine br (fun hj0 => ?_) fun hj0 => ?_
  · refine br (fun hi1 => ?_) fun hi1 => ?_
    · have hi1 : i < ((xs.map D.int).length : Int) := of_decide_eq_true hi1
      obtain ⟨c, e⟩ := atI_map hi (by simpa using hi1)
      have go : ∀ (Q : D → Prop), Q (.int c) → (match atI (xs.map D.int) i with
        | some d => Q d
        | none => False) := fun Q h => by rw [e]; exact h
      refine go (fun d => _) ?_
      refine ⟨⟨by decide, by decide, by decide⟩, ?_⟩
      refine br (fun hc => ?_) fun hc => ?_
      · exact tail (i + 1) c k (l + 1) _ (by omega) (Int.le_trans (by decide) (of_decide_eq_true hc)) hk0 hk1
      · refine ⟨.inl (.inr ⟨by decide, by decide⟩), (by decide : (0 : Int) < 2147483543), .inl (.inr ⟨by decide, by decide⟩), (by decide : (0 : Int) < 2147483629), ?_⟩
        exact tail (i + 1) j _ (l + 1) _ (by omega) hj (Int.emod_nonneg _ (by decide)) (Int.emod_lt_of_pos _ (by decide))
    · exact tail i j k (l + 1) _ hi hj hk0 hk1
  · exact brF rfl (tail i j k (l + 1) _ hi hj hk0 hk1)
theorem ix_nat {α : Type} {xs : List α} {i : Nat} (h : i < xs.length) : atI xs (i : Int) = some xs[i] := by
  obtain ⟨x, e, e2⟩ := atI_nat (xs := xs) (i := (i : Int)) (by omega) (by omega)
  rw [e, ← e2]
  simp [h]
theorem oIx_imp {x y : D} {Q R : D → Prop} (h : oIx x y Q) (i : ∀ z, Q z → R z) : oIx x y R := by
  unfold oIx at h ⊢
  split at h
  · split at h
    · exact i _ h
    · exact h
  · split at h
    · exact i _ h
    · exact h
  · refine ⟨h.1, ?_⟩
    have h := h.2
    split at h
    · exact i _ h
    · exact h
  · exact h
theorem pure_any (ws : List W) (μ : List O) (Q : W → List O → Prop) (E : Ex → List O → Prop) (h : sp_law_any ws μ Q E) : wb_law_any sp_law_draw { nx := fun st => Q (.d .non) st.μ, rt := Q, ex := fun x st => E x st.μ } ⟨startD 2 ws, μ⟩ := by
  obtain ⟨ds, b, r, rfl, rfl, ok, ⟨x, m, rfl, hl, m0, m1, hq⟩⟩ := h
  have key : ∀ k : Nat, k = m → ∀ (Q' : DQ) (E' : DX), (∀ (i : Nat) (b' : O), i < m → BagOk b' → Q' (.d (.int i)) ⟨startD 2 [.loc 0, .d x], b' :: r⟩) → wFn sp_law_draw [.loc 0, .d (.int k)] ⟨startD 2 [.loc 0, .d x], b :: r⟩ Q' E' := by
    rintro k rfl Q' E' hk
    refine wFn_bag 0 [.int k] b rfl rfl ok ⟨k, rfl, by omega, m1, fun d d0 d1 b' ok' => ?_⟩
    obtain ⟨i, rfl⟩ := Int.eq_ofNat_of_zero_le d0
    exact hk i b' (by omega) ok'
  cases x <;> first | (cases hl; done) | skip
  · rename_i x
    have hl : (if x.length ≤ 16777216 then some x.length else none) = some m := hl
    split at hl
    · rename_i hz
      cases hl
      exact ⟨hz, rfl, key _ rfl _ _ fun i b' hi ok' => oIx_imp (hq i hi) fun z h => h b' ok'⟩
    · cases hl
  · cases hl; exact ⟨rfl, key _ rfl _ _ fun i b' hi ok' => oIx_imp (hq i hi) fun z h => h b' ok'⟩
  · cases hl; exact ⟨rfl, key _ rfl _ _ fun i b' hi ok' => oIx_imp (hq i hi) fun z h => h b' ok'⟩
end Dl
namespace Dl
open PySem PySem.Spec PyProof.Rows L2
variable [TheW]
def noT (H : Hp) : Hp := fun b => match H b with
  | some (.tbl _) => none
  | o => o
theorem noT_sub (H : Hp) : SubH (noT H) H := fun b o e => by
  unfold noT at e
  cases q : H b with
  | none => rw [q] at e; cases e
  | some u =>
    rw [q] at e
    cases u <;> first | exact e | cases e
theorem noT_sq {K : PySem.W.Frag} {H : Hp} {a : Addr} {xs : List V} (h : SqL K H a xs) : SqL K (noT H) a xs := by
  rcases h with (h | ⟨o, h⟩) | h
  · exact .inl (.inl (by unfold noT; rw [h]))
  · exact .inl (.inr ⟨o, by unfold noT; rw [h]⟩)
  · exact .inr h
theorem law_sp {K : PySem.W.Frag} {c : DSp} (hc : ∀ xs : List Int, xs.length ≤ 63 → c [.scr xs] [] (fun w _ => w = .d (.bl true)) (fun _ _ => False)) (H : Hp) (a : Addr) (ns : List Int) (hl : ns.length ≤ 63) (h : SqL K H a (ns.map V.int))
    (ht : ∀ p ∈ lamDefs, PySem.W.codeHdIn K (He.cT K p).1 (He.cT K p).2 = true → H (He.cT K p).2 = some (.tbl #[])) :
    SpD K 1 c [.ref a] H (fun v _ => v = .bl true) (fun _ _ _ => False) := by
  refine ⟨noT H, [], [], [.scr ns], _, _, ⟨noT_sub H, rfl, List.nodup_nil, fun _ z => (by cases z), fun i _ _ z _ => (by simp at z), fun p hp e => ⟨#[], by unfold noT; rw [ht p hp e], ht p hp e, trivial, fun pos cv z => by cases z⟩, fun _ z => (by cases z)⟩, ⟨_, _, rfl, ⟨a, rfl, noT_sq h⟩, rfl⟩, rfl, hc ns hl, fun w μ v F ρ H' e _ _ r => ?_, fun x μ cls d F ρ H' z => z.elim⟩
  subst e
  exact r
theorem lawAt_of {l : PySem.W.OpenLaw} {w : World} {K : PySem.W.Frag} {mg : Str → Option Value} {x y : Str} {st : Stmt} {N : List Str} {k : Nat} {c : DSp} {wb : DS} {fa : Addr} {h : Heap} {tf : List He.Defn} (D : Df K mg x st) (S : FnScope N [y] (defScope st)) (hfa : mg x = some (.ref fa))
    (hb : ∀ base : Heap, K.In base → base.Ns mainGlobals mg → (∀ p ∈ tf, LamX.TabB base mg (He.cT K p).1 (He.cT K p).2) → BodyD l.prog w K mg base x st N k wb)
    (hw : ∀ ws μ Q E, ws.length = 1 → c ws μ Q E → wb { nx := fun st => Q (.d .non) st.μ, rt := Q, ex := fun x st => E x st.μ } ⟨startD N.length ws, μ⟩)
    (hc : ∀ xs : List Int, xs.length ≤ 63 → c [.scr xs] [] (fun w _ => w = .d (.bl true)) (fun _ _ => False))
    (KX : K.In h) (hd : ∀ p ∈ tf, PySem.W.codeHdIn K (He.cT K p).1 (He.cT K p).2 = true) (out : ∀ p ∈ tf, K.lookup (He.cT K p).2 = none) (emp : ∀ p ∈ tf, h.get? (He.cT K p).2 = some { cls := .none, data := .fields #[] })
    (tl : ∀ p ∈ lamDefs, PySem.W.codeHdIn K (He.cT K p).1 (He.cT K p).2 = true → p ∈ tf)
    (bd : ∀ (kV doc pm : Value) (an : Option Addr) (cdv ct : Value) (us : List Value), us.length = 1 → bindArgs (PySem.W.fnOf x x (defArgs st) (defBody st) (defScope st) .none kV doc pm an cdv ct) ⟨us, []⟩ = pure ([y].zip us)) :
    LamX.LawAtS l w K (L2.CX l.prog w) (k + 1) 63 y mg fa h := by
  obtain ⟨f, fd, F, hm⟩ := D.ex
  have e := hm.symm.trans hfa
  cases e
  refine ⟨fd, tf.map (He.cT K), SpD K 1 c, fun p z => ?_, fun p z => ?_, fun p z => ?_, fun s v => F.bindsA (ps := [y]) bd s [v] rfl, fun H a ns hl _ hH hS => law_sp hc H a ns hl hS fun p hp e => hH _ (List.mem_map.mpr ⟨p, tl p hp e, rfl⟩), fun base hK hN htab => ?_⟩
  · obtain ⟨q, hq, rfl⟩ := List.mem_map.mp z; exact emp q hq
  · obtain ⟨q, hq, rfl⟩ := List.mem_map.mp z; exact out q hq
  · obtain ⟨q, hq, rfl⟩ := List.mem_map.mp z; exact PySem.W.codeHd_of_K KX (hd q hq)
  exact ok_ofD F S rfl (fun cdv A outer s H E n hr => hb base hK hN (fun p hp => htab _ (List.mem_map.mpr ⟨p, hp, rfl⟩)) _ cdv A outer s H E n hr) hw
omit [TheW] in
theorem cx_no (P : Program) (w : World) (H : Hp) (s : Shared) (e : Value) (s' : Shared) (h : L2.CX P w [] H s (fun _ _ _ => False) e s') : False := by
  obtain ⟨_, _, _, _, _, _, _, _, _, _, _, _, z⟩ := h
  exact z
section
variable {K : PySem.W.Frag} {mg : Str → Option Value} {h : Heap} {fa : List He.Fa} {fn : List He.DefD}
theorem df_of (X : K.In h) (G : h.Ns mainGlobals mg) (c : He.SaysD fa fn K) {i j : Nat} {x : Str} {st : Stmt} (e1 : fn[i]? = some ⟨(x, none), x, x, defArgs st, defBody st, defScope st, [], []⟩) (e2 : fa[j]? = some (.glo x)) : Df K mg x st := by
  obtain ⟨fd, F⟩ := c.def_ i e1
  exact ⟨_, fd, F, He.glo_ok X G (c.fact j e2)⟩
theorem ex_at {bs : List Bool} (h : bs.all id = true) (i : Nat) {b : Bool} (e : bs[i]? = some b) : b = true := List.all_eq_true.mp h b (List.mem_of_getElem? e)
end
end Dl
namespace Dl
open PySem PySem.Spec PyProof.Rows L2
variable [TheW]
mutual
def plainD : Nat → D → Bool
  | 0, _ => false
  | _ + 1, .non => true
  | _ + 1, .bl _ => true
  | _ + 1, .int _ => true
  | _ + 1, .str x => x.all fun c => decide (c < 1114112)
  | n + 1, .tup xs => decide (xs.length ≤ 16777216) && plainL n xs
  | n + 1, .lst xs => decide (xs.length ≤ 16777216) && plainL n xs
  | _ + 1, _ => false
def plainL : Nat → List D → Bool
  | _, [] => true
  | n, d :: ds => plainD n d && plainL n ds
end
def sp_like (n : Nat) : DSp := spDat fun ds Q _ => ∃ d, ds = [d, d] ∧ plainD n d = true ∧ Q (.bl true)
def wb_law_like (an : Ty → Ty → Option Bool) (c : DSp) : DS := (wSeq (wIfS (wTest (wCall (oIsi an) (wCons (wVar 1) (wCons (wTup (wCons (wC (.ty "list")) (wCons (wC (.ty "tuple")) wNil))) wNil)))) (wSeq (wIfS (wOrT (wTest (wOp oNe (wCall (oIsi an) (wCons (wVar 0) (wCons (wC (.ty "list")) wNil))) (wCall (oIsi an) (wCons (wVar 1) (wCons (wC (.ty "list")) wNil))))) (wTest (wOp oNe (wCall (oIsi an) (wCons (wVar 0) (wCons (wC (.ty "tuple")) wNil))) (wCall (oIsi an) (wCons (wVar 1) (wCons (wC (.ty "tuple")) wNil)))))) (wRet (wC (.bl false))) wNext)
  (wRet (wAndV (wOp oEq (wLen (wVar 0)) (wLen (wVar 1))) (wCall oAll (wCons (wLc (wZip (wCons (wVar 0) (wCons (wVar 1) wNil))) (gT 2 (gsCons (gN 2) (gsCons (gN 3) gsNil))) wYes (wCalN 2 c (wCons (wVar 2) (wCons (wVar 3) wNil))) [2, 3]) wNil))))) wNext)
  (wSeq (wIfS (wOrT (wTest (wOp oIsN (wVar 1) (wC .non))) (wTest (wOp oIsN (wVar 0) (wC .non)))) (wRet (wAndV (wOp oIsN (wVar 1) (wC .non)) (wOp oIsN (wVar 0) (wC .non)))) wNext)
  (wSeq (wIfS (wOrT (wTest (wOp oNe (wCall (oIsi an) (wCons (wVar 1) (wCons (wC (.ty "bool")) wNil))) (wCall (oIsi an) (wCons (wVar 0) (wCons (wC (.ty "bool")) wNil))))) (wTest (wOp oNe (wCall (oIsi an) (wCons (wVar 1) (wCons (wC (.ty "int")) wNil))) (wCall (oIsi an) (wCons (wVar 0) (wCons (wC (.ty "int")) wNil)))))) (wRet (wC (.bl false))) wNext)
  (wRet (wAndV (wOp oEq (wCall (oIsi an) (wCons (wVar 1) (wCons (wC (.ty "str")) wNil))) (wCall (oIsi an) (wCons (wVar 0) (wCons (wC (.ty "str")) wNil)))) (wOp oEq (wVar 0) (wVar 1)))))))
theorem bools_true (k : Nat) : bools (List.replicate k (.bl true)) = some (List.replicate k true) := by
  induction k with
  | zero => rfl
  | succ k ih =>
    rw [List.replicate_succ, List.replicate_succ]
    unfold bools
    rw [ih]
theorem all_true (k : Nat) : (List.replicate k true).all id = true := by
  rw [List.all_eq_true]
  intro x hx
  rw [List.eq_of_mem_replicate hx]; rfl
theorem like_rows {n : Nat} {δ : List (Option W)} (hl : ∃ a b, δ = [a, b, none, none]) {Q : List D → List O → Prop} {μ : List O} : ∀ (xs : List D) (j : Nat), plainL n xs = true → j + xs.length ≤ 16777216 → Q (List.replicate (j + xs.length) (.bl true)) μ →
    wLcL (gT 2 (gsCons (gN 2) (gsCons (gN 3) gsNil))) wYes (wCalN 2 (sp_like n) (wCons (wVar 2) (wCons (wVar 3) wNil))) δ Q (zipD xs xs) (List.replicate j (.bl true)) μ
  | [], j, _, _, h => h
  | x :: xs, j, hp, hz, h => by
    obtain ⟨a, b, rfl⟩ := hl
    unfold plainL at hp
    rw [Bool.and_eq_true] at hp
    refine ⟨rfl, ?_⟩
    refine brT rfl ?_
    refine ⟨rfl, ?_⟩
    refine wFn_dat [x, x] rfl ⟨x, rfl, hp.1, ?_⟩
    refine ⟨by rw [List.length_replicate]; simp at hz; omega, ?_⟩
    rw [← List.replicate_succ']
    refine like_rows ⟨a, b, rfl⟩ xs (j + 1) hp.2 (by simp at hz; omega) ?_
    rw [Nat.add_assoc, Nat.add_comm 1, ← List.length_cons (a := x)]
    exact h
theorem eqS {x : List Nat} {Q : D → Prop} (hx : (x.all fun c => decide (c < 1114112)) = true) (h : Q (.bl true)) : oEq (.str x) (.str x) Q := by
  have h1 : SeqAt.shaped (.str (mkS x)) = true := by
    unfold SeqAt.shaped PyData.canLay0
    rw [Bool.and_eq_true]
    exact ⟨by unfold PyData.strOk; simpa [mkS] using hx, by unfold PyData.depth; decide⟩
  refine ⟨_, _, rfl, rfl, h1, h1, ?_⟩
  have e : PyData.eqv (.str (mkS x)) (.str (mkS x)) = true := by unfold PyData.eqv; simp
  rw [e]; exact h
theorem pure_like (tbl : List ((Ty × Ty) × Bool)) (n : Nat) (ws : List W) (μ : List O) (Q : W → List O → Prop) (E : Ex → List O → Prop) (h : sp_like (n + 1) ws μ Q E) : wb_law_like (ansW tbl) (sp_like n) { nx := fun st => Q (.d .non) st.μ, rt := Q, ex := fun x st => E x st.μ } ⟨startD 4 ws, μ⟩ := by
  obtain ⟨ds, rfl, d, rfl, hp, hq⟩ := h
  have mem : ∀ {xs : List D} {R : D → Prop} (μ' : List O) (Q : List D → List O → Prop), plainL n xs = true → xs.length ≤ 16777216 → Q (List.replicate xs.length (.bl true)) μ → ∀ a b, wLcL (gT 2 (gsCons (gN 2) (gsCons (gN 3) gsNil))) wYes (wCalN 2 (sp_like n) (wCons (wVar 2) (wCons (wVar 3) wNil))) [a, b, none, none] Q (zipD xs xs) [] μ := fun {xs} {R} μ' Q h1 h2 h3 a b =>
    like_rows ⟨a, b, rfl⟩ xs 0 h1 (by omega) (by rw [Nat.zero_add]; exact h3)
  cases d with
  | non =>
    refine ⟨by decide, isi2 "NoneType" "list" "tuple" false false rfl (by decide +kernel) (by decide +kernel) ?_⟩
    refine brF rfl ?_
    refine brT rfl (brT rfl (brT rfl ?_))
    exact hq
  | bl b =>
    refine ⟨by decide, isi2 "bool" "list" "tuple" false false rfl (by decide +kernel) (by decide +kernel) ?_⟩
    refine brF rfl (brF rfl (brF rfl ?_))
    refine isi1 "bool" "bool" true rfl (by decide +kernel) ?_
    refine isi1 "bool" "bool" true rfl (by decide +kernel) ?_
    refine neB (brF rfl ?_)
    refine isi1 "bool" "int" true rfl (by decide +kernel) ?_
    refine isi1 "bool" "int" true rfl (by decide +kernel) ?_
    refine neB (brF rfl ?_)
    refine isi1 "bool" "str" false rfl (by decide +kernel) ?_
    refine isi1 "bool" "str" false rfl (by decide +kernel) ?_
    refine eqB (brT rfl ?_)
    refine eqB ?_
    cases b <;> exact hq
  | int i =>
    refine ⟨by decide, isi2 "int" "list" "tuple" false false rfl (by decide +kernel) (by decide +kernel) ?_⟩
    refine brF rfl (brF rfl (brF rfl ?_))
    refine isi1 "int" "bool" false rfl (by decide +kernel) ?_
    refine isi1 "int" "bool" false rfl (by decide +kernel) ?_
    refine neB (brF rfl ?_)
    refine isi1 "int" "int" true rfl (by decide +kernel) ?_
    refine isi1 "int" "int" true rfl (by decide +kernel) ?_
    refine neB (brF rfl ?_)
    refine isi1 "int" "str" false rfl (by decide +kernel) ?_
    refine isi1 "int" "str" false rfl (by decide +kernel) ?_
    refine eqB (brT rfl ?_)
    refine eqI ?_
    rw [decide_eq_true rfl]
    exact hq
  | str x =>
    refine ⟨by decide, isi2 "str" "list" "tuple" false false rfl (by decide +kernel) (by decide +kernel) ?_⟩
    refine brF rfl (brF rfl (brF rfl ?_))
    refine isi1 "str" "bool" false rfl (by decide +kernel) ?_
    refine isi1 "str" "bool" false rfl (by decide +kernel) ?_
    refine neB (brF rfl ?_)
    refine isi1 "str" "int" false rfl (by decide +kernel) ?_
    refine isi1 "str" "int" false rfl (by decide +kernel) ?_
    refine neB (brF rfl ?_)
    refine isi1 "str" "str" true rfl (by decide +kernel) ?_
    refine isi1 "str" "str" true rfl (by decide +kernel) ?_
    refine eqB (brT rfl ?_)
    exact eqS (by unfold plainD at hp; exact hp) hq
  | lst xs =>
    unfold plainD at hp
    rw [Bool.and_eq_true] at hp
    have hz := of_decide_eq_true hp.1
    refine ⟨by decide, isi2 "list" "list" "tuple" true false rfl (by decide +kernel) (by decide +kernel) ?_⟩
    refine brT rfl ?_
    refine isi1 "list" "list" true rfl (by decide +kernel) ?_
    refine isi1 "list" "list" true rfl (by decide +kernel) ?_
    refine neB (brF rfl ?_)
    refine isi1 "list" "tuple" false rfl (by decide +kernel) ?_
    refine isi1 "list" "tuple" false rfl (by decide +kernel) ?_
    refine neB (brF rfl ?_)
    refine eqI ?_
    refine brT (decide_eq_true rfl) ?_
    refine ⟨mem (R := fun _ => True) μ _ hp.2 hz ?_ _ _⟩
    refine ⟨_, bools_true _, ?_⟩
    rw [all_true]
    exact hq
  | tup xs =>
    unfold plainD at hp
    rw [Bool.and_eq_true] at hp
    have hz := of_decide_eq_true hp.1
    refine ⟨by decide, isi2 "tuple" "list" "tuple" false true rfl (by decide +kernel) (by decide +kernel) ?_⟩
    refine brT rfl ?_
    refine isi1 "tuple" "list" false rfl (by decide +kernel) ?_
    refine isi1 "tuple" "list" false rfl (by decide +kernel) ?_
    refine neB (brF rfl ?_)
    refine isi1 "tuple" "tuple" true rfl (by decide +kernel) ?_
    refine isi1 "tuple" "tuple" true rfl (by decide +kernel) ?_
    refine neB (brF rfl ?_)
    refine eqI ?_
    refine brT (decide_eq_true rfl) ?_
    refine ⟨mem (R := fun _ => True) μ _ hp.2 hz ?_ _ _⟩
    refine ⟨_, bools_true _, ?_⟩
    rw [all_true]
    exact hq
  | dic _ _ => unfold plainD at hp; cases hp
  | ins _ _ _ => unfold plainD at hp; cases hp
  | ty _ => unfold plainD at hp; cases hp
  | cls _ => unfold plainD at hp; cases hp
  | exc _ _ _ => unfold plainD at hp; cases hp
  | lamR _ _ => unfold plainD at hp; cases hp
  | lam _ _ _ => unfold plainD at hp; cases hp
end Dl
namespace Dl
open PySem PySem.Spec PyProof.Rows L2
variable [TheW]
def lookD (f : Str) : List Str → List D → Option D
  | k :: ks, d :: ds => if f = k then some d else lookD f ks ds
  | _, _ => none
def putK (f : Str) : List Str → List Str
  | [] => [f]
  | k :: ks => if k = f then k :: ks else k :: putK f ks
def putD (f : Str) (d : D) : List Str → List D → List D
  | k :: ks, x :: ds => if k = f then d :: ds else x :: putD f d ks ds
  | _, _ => [d]
theorem lookD_hit (f : Str) (ks : List Str) (d : D) (ds : List D) : lookD f (f :: ks) (d :: ds) = some d := by
  unfold lookD
  rw [if_pos rfl]
theorem lookD_miss {f k : Str} (h : f ≠ k) (ks : List Str) (d : D) (ds : List D) : lookD f (k :: ks) (d :: ds) = lookD f ks ds := by
  conv => lhs; unfold lookD
  rw [if_neg h]
theorem putK_hit (f : Str) (ks : List Str) : putK f (f :: ks) = f :: ks := by unfold putK; rw [if_pos rfl]
theorem putK_miss {f k : Str} (h : k ≠ f) (ks : List Str) : putK f (k :: ks) = k :: putK f ks := by
  conv => lhs; unfold putK
  rw [if_neg h]
theorem putD_hit (f : Str) (d x : D) (ks : List Str) (ds : List D) : putD f d (f :: ks) (x :: ds) = d :: ds := by unfold putD; rw [if_pos rfl]
theorem putD_miss {f k : Str} (h : k ≠ f) (d x : D) (ks : List Str) (ds : List D) : putD f d (k :: ks) (x :: ds) = x :: putD f d ks ds := by
  conv => lhs; unfold putD
  rw [if_neg h]
section
variable {K : PySem.W.Frag} {F : Hp}
theorem look_rep {f : Str} : ∀ {fs : List (Str × V)} {ks : List Str} {ds : List D} {d : D}, fs.map (·.1) = ks → RepL K F ds (fs.map (·.2)) → lookD f ks ds = some d → ∃ v, fs.lookup f = some v ∧ Rep K F d v
  | [], ks, ds, d, e, _, h => by
    subst e
    cases ds <;> cases h
  | (g, x) :: fs, ks, ds, d, e, r, h => by
    subst e
    cases ds with
    | nil => cases h
    | cons y ds =>
      unfold RepL at r
      obtain ⟨v, t, e2, q, r⟩ := r
      cases e2
      have h : lookD f (g :: fs.map (·.1)) (y :: ds) = some d := h
      by_cases z : f = g
      · subst z
        rw [lookD_hit] at h
        cases h
        exact ⟨x, by simp [List.lookup], q⟩
      · rw [lookD_miss z] at h
        obtain ⟨v, e3, q3⟩ := look_rep rfl r h
        refine ⟨v, ?_, q3⟩
        rw [List.lookup_cons, show (f == g) = false from beq_eq_false_iff_ne.mpr z]
        exact e3
theorem put_rep {f : Str} {d : D} {v : V} (rv : Rep K F d v) : ∀ {fs : List (Str × V)} {ks : List Str} {ds : List D}, fs.map (·.1) = ks → RepL K F ds (fs.map (·.2)) →
    (putF f v fs).map (·.1) = putK f ks ∧ RepL K F (putD f d ks ds) ((putF f v fs).map (·.2))
  | [], ks, ds, e, r => by
    subst e
    exact ⟨rfl, by cases ds <;> exact RepL.one rv⟩
  | (g, x) :: fs, ks, ds, e, r => by
    subst e
    cases ds with
    | nil => unfold RepL at r; cases r
    | cons y ds =>
      unfold RepL at r
      obtain ⟨u, t, e2, q, r⟩ := r
      cases e2
      by_cases z : g = f
      · subst z
        have e : putF g v ((g, x) :: fs) = (g, v) :: fs := by unfold putF; rw [if_pos rfl]
        rw [e]
        exact ⟨(putK_hit g _).symm, by rw [List.map_cons, putD_hit]; exact RepL.cons rv r⟩
      · obtain ⟨h1, h2⟩ := put_rep rv (fs := fs) rfl r
        have e : putF f v ((g, x) :: fs) = (g, x) :: putF f v fs := by
          conv => lhs; unfold putF
          rw [if_neg z]
        rw [e]
        refine ⟨?_, ?_⟩
        · rw [List.map_cons, List.map_cons, putK_miss z, h1]
        · rw [List.map_cons, List.map_cons, putD_miss z]
          exact RepL.cons q h2
end
structure fldP (c f : Str) (v : W) (μ : List O) (Q : D → Prop) : Prop where
  ex : (∃ ks vs d, v = .d (.ins c ks vs) ∧ lookD f ks vs = some d ∧ Q d) ∨ ∃ j ks vs d, v = .loc j ∧ μ[j]? = some (.ins c ks vs) ∧ lookD f ks vs = some d ∧ Q d
def wFld (c f : Str) (w : DE) : DE := fun st Q E => w st (fun v st1 => fldP c f v st1.μ fun d => Q (.d d) st1) E
structure setP (c f : Str) (o x : W) (st : Dst) (Q : Dst → Prop) : Prop where
  ex : ∃ j ks vs d, o = .loc j ∧ x = .d d ∧ st.μ[j]? = some (.ins c ks vs) ∧ ks.length < 1000 ∧ Q { st with μ := st.μ.set j (.ins c (putK f ks) (putD f d ks vs)) }
def wSetF (c f : Str) (wo wv : DE) : DS := fun D st => wv st (fun x st1 => wo st1 (fun o st2 => setP c f o x st2 D.nx) D.ex) D.ex
section
variable {X : Cx} {n : En} {e o value : Expr} {pos pos' : Pos}
theorem loc_ins {K : PySem.W.Frag} {F H : Hp} {ρ : List Addr} {μ : List O} {j : Nat} {v : V} {c : Str} {ks : List Str} {ds : List D} (s : StOk K F ρ μ H) (r : RepW K F ρ (.loc j) v) (h : μ[j]? = some (.ins c ks ds)) :
    ∃ p dx fs, v = .ref p ∧ ρ[j]? = some p ∧ F p = none ∧ H p = some (.ins (He.ga K c) dx fs) ∧ fs.map (·.1) = ks ∧ RepL K F ds (fs.map (·.2)) := by
  obtain ⟨p, e, rfl⟩ := r
  obtain ⟨f, dx, fs, h1, h2, h3⟩ := s.obj j p _ e h
  exact ⟨p, dx, fs, rfl, e, f, h1, h2, h3⟩
theorem pd_fld {c f : Str} {we : DE} (hc : Cls X.K (He.ga X.K c)) (hn : NoAttr X.K (He.ga X.K c) f) (h : PD X n e we) (hb : attributeBase e f X.env (eval e X.env) = eval e X.env := by rfl) : PD X n (.Attribute e f pos) (wFld c f we) :=
  pd_of (pe_fld h.pe hb) fun σ H F ρ st Q E R tk hw => by
    refine tE.use R tk hw fun v w1 st1 H1 F1 ρ1 p1 R1 r1 h1 => ?_
    rcases h1.ex with ⟨ks, vs, d, rfl, l, q⟩ | ⟨j, ks, vs, d, rfl, em, l, q⟩
    · have r1 : Rep X.K F1 (.ins c ks vs) v := r1
      unfold Rep at r1
      obtain ⟨a, dx, fs, rfl, e1, e2, e3⟩ := r1
      obtain ⟨u, e4, e5⟩ := look_rep e2 e3 l
      exact ⟨a, _, dx, fs, u, rfl, R1.ok.sub _ _ e1, hc, hn, e4, .d d, st1, F1, ρ1, p1, R1, e5, q⟩
    · obtain ⟨a, dx, fs, rfl, _, _, e1, e2, e3⟩ := loc_ins R1.ok r1 em
      obtain ⟨u, e4, e5⟩ := look_rep e2 e3 l
      exact ⟨a, _, dx, fs, u, rfl, e1, hc, hn, e4, .d d, st1, F1, ρ1, p1, R1, e5, q⟩
theorem psd_fld {c f : Str} {wo wv : DE} (hc : Cls X.K (He.ga X.K c)) (hn : NoAttr X.K (He.ga X.K c) f) (ho : PD X n o wo) (hv : PD X n value wv) (hs : swapsWith value (some (.Attribute o f pos')) pos.line X.env = pure false := by rfl) :
    PSD X n (.Assign [.Attribute o f pos'] value pos) (wSetF c f wo wv) :=
  psd_of (ps_fld ho.pe hv.pe hs) fun σ H F ρ st D R tk hw => by
    refine tE.use R tk hw fun y w1 st1 H1 F1 ρ1 p1 R1 r1 h1 => ?_
    refine tE.use R1 tk h1 fun v w2 st2 H2 F2 ρ2 p2 R2 r2 h2 => ?_
    obtain ⟨j, ks, vs, d, rfl, rfl, em, hl, q⟩ := h2.ex
    have ry : Rep X.K F2 d y := Rep.sub p2.le _ _ r1
    obtain ⟨a, dx, fs, rfl, er, f0, e1, e2, e3⟩ := loc_ins R2.ok r2 em
    obtain ⟨k1, k2⟩ := put_rep ry e2 e3
    have ok : OOk X.K F2 (upd H2 a (.ins (He.ga X.K c) dx (putF f y fs))) a (.ins c (putK f ks) (putD f d ks vs)) := ⟨f0, dx, _, upd_same, k1, k2⟩
    obtain ⟨p3, R3⟩ := R2.store er ok f0
    refine ⟨a, _, dx, fs, rfl, e1, hc, hn, by rw [← e2, List.length_map] at hl; exact hl, F2, ρ2, _, (p1.trans p2 R1.ok.dom).trans p3 R2.ok.dom, R3, q⟩
end
theorem outer {K : PySem.W.Frag} {F : Hp} {ρ : List Addr} {μ : List O} {H : Hp} (ok : StOk K F ρ μ H) {x dx C : Addr} (hx : H x = none) (hdx : H dx = none) {F' : Hp} {ρ' : List Addr} {H' : Hp} (p : Post F [x] (upd (upd H dx (.own x)) x (.ins C dx [])) F' ρ' H') (s : SubH F' H') (tb : TabsK K F' H') :
    Post F ρ H F' ρ H' ∧ StOk K F' ρ μ H' := by
  have old : ∀ b, H b ≠ none → (upd (upd H dx (.own x)) x (.ins C dx [])) b = H b := fun b hb => by
    have n1 : b ≠ x := fun z => hb (z ▸ hx)
    have n2 : b ≠ dx := fun z => hb (z ▸ hdx)
    rw [upd_ne n1, upd_ne n2]
  have nx1 : ∀ b u, H b = some u → b ∉ [x] := fun b u hb => by
    have n1 : b ≠ x := fun z => by rw [z, hx] at hb; cases hb
    simpa using n1
  have kp : ∀ b u, H b = some u → (∀ ps, u ≠ .tbl ps) → H' b = some u := fun b u hb nt => p.keep b u (by rw [old b (by rw [hb]; simp)]; exact hb) (nx1 b u hb) nt
  have kt : ∀ b u, H b = some u → H' b = some u ∨ ∃ ps qs, u = .tbl ps ∧ H' b = some (.tbl qs) := fun b u hb => p.keepT b u (by rw [old b (by rw [hb]; simp)]; exact hb) (nx1 b u hb)
  have nw : ∀ b, F' b ≠ none → F b ≠ none ∨ H b = none := fun b hb => by
    rcases p.new b hb with z | z | z
    · exact .inl z
    · refine .inr ?_
      cases q : H b with
      | none => rfl
      | some u => rw [old b (by rw [q]; simp), q] at z; cases z
    · refine .inr ?_
      have e : b = x := by simpa using z
      rw [e]; exact hx
  refine ⟨⟨p.le, ⟨[], by simp⟩, fun b hb => (nw b hb).elim .inl fun z => .inr (.inl z), fun b u hb _ => kt b u hb, fun b h1 h2 => absurd h1 h2⟩, ⟨s, ok.len, ok.nd, fun a ha => ?_, fun i a o e1 e2 => ?_, tb, fun a ha ps => ?_⟩⟩
  rotate_left 2
  · cases q : H a with
    | none => exact absurd q (ok.dom a ha)
    | some u => rw [kp a u q fun qs e => ok.notab a ha qs (e ▸ q)]; exact fun y => ok.notab a ha ps (by rw [q]; exact y)
  · have := ok.dom a ha
    cases q : H a with
    | none => exact absurd q this
    | some u => rw [kp a u q fun qs e => ok.notab a ha qs (e ▸ q)]; simp
  · have hd := ok.dom a (List.mem_of_getElem? e1)
    refine (ok.obj i a o e1 e2).mono p.le (fun z => ?_) (fun u z => kp a u z fun qs e => ok.notab a (List.mem_of_getElem? e1) qs (e ▸ z))
    cases q : F' a with
    | none => rfl
    | some u =>
      rcases nw a (by rw [q]; simp) with w | w
      · exact absurd z w
      · exact absurd w hd
theorem outer_frz {K : PySem.W.Frag} {F F' : Hp} {ρ : List Addr} {μ : List O} {H H' : Hp} {x : Addr} {u : HO} (p : Post F ρ H F' ρ H') (ok : StOk K F' ρ μ H') (hx : H x = none) (hr : x ∉ ρ) (f : F' x = none) (h : H' x = some u) (nt : ∀ ps, u ≠ .tbl ps := by intro _ z; cases z) :
    Post F ρ H (upd F' x u) ρ H' ∧ StOk K (upd F' x u) ρ μ H' := by
  have le : SubH F' (upd F' x u) := fun b o e => by rw [upd_ne (ne_of_none e f)]; exact e
  refine ⟨⟨p.le.trans le, p.pre, fun b hb => ?_, p.keepT, p.fresh⟩, ⟨fun b o e => ?_, ok.len, ok.nd, ok.dom, fun i a o e1 e2 => ?_, ok.tabs.ext le fun b ps f e => ⟨by rw [upd_ne (fun z : b = x => by rw [z, h] at e; cases e; exact nt ps rfl)]; exact f, e⟩, ok.notab⟩⟩
  · by_cases z : b = x
    · subst z; exact .inr (.inl hx)
    · rw [upd_ne z] at hb; exact p.new b hb
  · by_cases z : b = x
    · subst z; rw [upd_same] at e; rw [← e]; exact h
    · rw [upd_ne z] at e; exact ok.sub b o e
  · have na : a ≠ x := fun z => hr (z ▸ List.mem_of_getElem? e1)
    exact (ok.obj i a o e1 e2).mono le (fun z => by rw [upd_ne na]; exact z) fun _ z => z
structure MkD (P : Program) (w : World) (K : PySem.W.Frag) (mg : Str → Option Value) (base : Heap) (c : Str) (k m : Nat) (dd : List D) (sp : DSp) : Prop where
  ex : ∃ f fd ps ds dvs, FnOk P w K mg base (L2.CX P w) k f fd ps (SpD K m sp) ∧ Mk K (He.ga K c) f ∧ mg c = some (.ref (He.ga K c)) ∧ Binds K fd ps ds ∧ Vals dvs ds ∧ ∀ F, RepL K F dd dvs
structure makeP (c : Str) (sp : DSp) (m : Nat) (xs : List D) (st : Dst) (Q : DQ) (E : DX) : Prop where
  len : xs.length + 1 = m
  ap : sp (.loc 0 :: xs.map .d) [.ins c [] []] (fun w μ => w = .d .non ∧ ∃ ks vs, μ = [.ins c ks vs] ∧ Q (.d (.ins c ks vs)) st) (fun x _ => E x st)
def wMake (c : Str) (sp : DSp) (m : Nat) (dd : List D) (wa : DA) : DE := fun st Q E => wa st (fun ws st1 => match datas ws with
  | some xs => makeP c sp m (xs ++ dd) st1 Q E
  | none => False) E
section
variable {X : Cx} {n : En} {e o : Expr} {es : List Expr} {pos p : Pos}
theorem run_makeS {k : Nat} {f C : Addr} {fd : FuncData} {ps : List Str} {sp : Sp} {dvs : List V} {ds : List Value} {E : L2.St → XK} {pins : List (Addr × Obj)} {σ : L2.St} {H : Hp} {s : Shared} {Q : VK} {us : List Value} {vs : List V} (M : Mk X.K C f)
    (F : FnOk X.prog X.w X.K X.mg X.base (L2.CX X.prog X.w) k f fd ps sp) (hr : Room (k + 1) X.A) (hb : Binds X.K fd ps ds) (hd : Vals dvs ds) (hx : PassesAt (L2.CX X.prog X.w) X σ (E σ)) (I : Inv X pins σ H s) (r : Vals vs us)
    (h : ∀ x dx, H x = none → H dx = none → dx ≠ x → sp (.ref x :: (vs ++ dvs)) (upd (upd H dx (.own x)) x (.ins C dx [])) (fun v H2 => v = .non ∧ Q (.ref x) H2) (E σ)) : wpAny (model X.prog X.w) X.A (call (.ref C) us) (EP X pins σ Q) X.xe s := by
  have here := h (s.heap.objs.size + 1) s.heap.objs.size (I.hok.fresh (Nat.le_succ _)) (I.hok.fresh (Nat.le_refl _)) (Nat.ne_of_lt (Nat.lt_succ_self _))
  have J := Inv.made (C := C) I
  have rr : Vals (V.ref (s.heap.objs.size + 1) :: (vs ++ dvs)) (Value.ref (s.heap.objs.size + 1) :: (us ++ ds)) := .cons rfl (r.append hd)
  have ll : (Value.ref (s.heap.objs.size + 1) :: us ++ ds).length = ps.length := ((F.len _ _ _ _ here).symm.trans rr.length).symm
  refine wpAny_call (make_map (f := f) I.kIn M.makes M.init (beq_iff_eq.mp M.fn) (codeAny_mono (F.run _ X.stack _ _ ⟨Value.ref (s.heap.objs.size + 1) :: us, []⟩ _ _ _ (E σ) (hr.make C us []) (J.env0.make C us []) (hb _ (Value.ref (s.heap.objs.size + 1) :: us) J.kIn ll) rr here) fun r s' hq => ?_))
  cases r with
  | error e => exact hx pins _ _ e s' J hq
  | ok fl =>
    cases fl with
    | ret u =>
      obtain ⟨v, H', I3, rv, ev, q3⟩ := J.after hq
      subst ev
      exact ⟨rv, ⟨V.ref (s.heap.objs.size + 1), H', I3, rfl, q3⟩⟩
    | next => exact False.elim hq
    | brk => exact False.elim hq
    | cont => exact False.elim hq
theorem make_sp {c : Str} {sp : DSp} {m : Nat} {dd xs : List D} {dvs vs : List V} {σ : L2.St} {H F : Hp} {ρ : List Addr} {st : Dst} {Q : DQ} {E : DX} (R : Rl X.K n F ρ st σ H) (r : RepL X.K F xs vs) (rd : ∀ F, RepL X.K F dd dvs) (h : makeP c sp m (xs ++ dd) st Q E) {EX : XK}
    (hE : ∀ cls d H', (∃ st' F' ρ' x, Rl X.K n F' ρ' st' σ H' ∧ ExRep X.K F' x cls d H' ∧ E x st') → EX cls d H') (x dx : Addr) (hx : H x = none) (hdx : H dx = none) (ne : dx ≠ x) :
    SpD X.K m sp (.ref x :: (vs ++ dvs)) (upd (upd H dx (.own x)) x (.ins (He.ga X.K c) dx [])) (fun v H2 => v = .non ∧ ∃ w' st' F' ρ', Post F ρ H F' ρ' H2 ∧ Rl X.K n F' ρ' st' σ H2 ∧ RepW X.K F' ρ' w' (.ref x) ∧ Q w' st') EX := by
  have xr : x ∉ ρ := fun z => R.ok.dom x z hx
  have fx : F x = none := by
    cases q : F x with
    | none => rfl
    | some u => rw [R.ok.sub x u q] at hx; cases hx
  have st0 : StOk X.K F [x] [.ins c [] []] (upd (upd H dx (.own x)) x (.ins (He.ga X.K c) dx [])) := by
    refine ⟨fun b u e => ?_, rfl, by simp, fun a ha => ?_, fun i a o e1 e2 => ?_, R.ok.tabs.ext (SubH.refl F) fun b ps f e => ⟨f, by rw [upd_ne (ne_of_none e hx), upd_ne (ne_of_none e hdx)]; exact e⟩, fun a ha ps => ?_⟩
    rotate_left 3
    · have : a = x := by simpa using ha
      subst this; rw [upd_same]; intro z; cases z
    · have hb := R.ok.sub b u e
      rw [upd_ne (ne_of_none hb hx), upd_ne (ne_of_none hb hdx)]; exact hb
    · have : a = x := by simpa using ha
      subst this; rw [upd_same]; simp
    · cases i with
      | zero =>
        cases e1; cases e2
        exact ⟨fx, dx, [], upd_same, rfl, RepL.nil⟩
      | succ i => simp at e1
  refine ⟨F, [x], [.ins c [] []], .loc 0 :: (xs ++ dd).map .d, _, _, st0, ⟨_, _, rfl, ⟨x, rfl, rfl⟩, RepWL.toD (r.app (rd F))⟩, by simpa using h.len, h.ap, fun w μ v F' ρ' H' q p ok rw => ?_, fun y μ cls d F' ρ' H' q p ok rx => ?_⟩
  · obtain ⟨rfl, ks, fs, rfl, q⟩ := q
    refine ⟨rw, ?_⟩
    obtain ⟨P, ok2⟩ := outer R.ok hx hdx p ok.sub ok.tabs
    obtain ⟨t, et⟩ := p.pre
    have e0 : ρ'[0]? = some x := by rw [et]; rfl
    obtain ⟨f2, dx2, gs, h1, h2, h3⟩ := ok.obj 0 x _ e0 rfl
    obtain ⟨P2, ok3⟩ := outer_frz P ok2 hx xr f2 h1
    refine ⟨.d (.ins c ks fs), st, _, ρ, P2, R.step P2 ok3, ?_, q⟩
    show Rep X.K _ (.ins c ks fs) (.ref x)
    unfold Rep
    exact ⟨x, dx2, gs, rfl, upd_same, h2, RepL.sub (fun b o e => by rw [upd_ne (ne_of_none e f2)]; exact e) _ _ h3⟩
  · obtain ⟨P, ok2⟩ := outer R.ok hx hdx p ok.sub ok.tabs
    exact hE cls d H' ⟨st, F', ρ, y, R.step P ok2, rx, q⟩
theorem pd_make {c : Str} {k m : Nat} {dd : List D} {sp : DSp} {wa : DA} (D : MkD X.prog X.w X.K X.mg X.base c k m dd sp) (hr : Room (k + 1) X.A) (hg : Gl X c) (ha : PAD X n (e :: es) wa) (hdb : (c == ("__debug__" : Str)) = false := by decide)
    (he : starEach (e :: es) X.env = (false, eval e X.env) :: starEach es X.env := by rfl) (hpl : (backTo pos (starEach es X.env)).any (·.1) = false := by rfl) : PD X n (.Call (.Name c p) (e :: es) [] pos) (wMake c sp m dd wa) := by
  obtain ⟨f, fd, ps, ds, dvs, Fn, M, hmg, hb, hd, hrd⟩ := D.ex
  refine ⟨fun pins s σ H F ρ st Q E I R tk hw => ?_⟩
  refine wpAny_Call_Name_kw (ld_glob I hg hmg ?_ hdb)
  refine PySem.W.callWith_K (h₀ := X.base) I.ok.mod.kin M.kp (thn (ha.run pos pins s σ H F ρ st _ E I R tk hw) fun us s1 ⟨vs, ws, st1, H1, F1, ρ1, I1, r, p1, R1, rw, q⟩ => ⟨I1.kIn, ?_⟩) he hpl
  dsimp only at q
  split at q
  · rename_i xs ex
    have ew := datas_map ex
    subst ew
    refine thn (run_makeS (Q := fun v H' => ∃ w' st' F' ρ', Post F1 ρ1 H1 F' ρ' H' ∧ Rl X.K n F' ρ' st' σ H' ∧ RepW X.K F' ρ' w' v ∧ Q w' st') M Fn hr hb hd (passAt tk σ) I1 r (make_sp R1 (RepWL.ofD rw) hrd q fun cls d H' z => z)) fun u s2 ⟨v, H2, I2, r2, w', st', F', ρ', p2, R2, rw2, q2⟩ => ?_
    exact ⟨v, w', st', H2, F', ρ', I2, r2, p1.trans p2 R1.ok.dom, R2, rw2, q2⟩
  · exact q.elim
theorem look_none {K : PySem.W.Frag} {F : Hp} {f : Str} : ∀ {fs : List (Str × V)} {ks : List Str} {ds : List D}, fs.map (·.1) = ks → RepL K F ds (fs.map (·.2)) → lookD f ks ds = none → fs.lookup f = none
  | [], ks, ds, e, _, h => rfl
  | (g, x) :: fs, ks, ds, e, r, h => by
    subst e
    cases ds with
    | nil => unfold RepL at r; cases r
    | cons y ds =>
      unfold RepL at r
      obtain ⟨v, t, e2, q, r⟩ := r
      cases e2
      have h : lookD f (g :: fs.map (·.1)) (y :: ds) = none := h
      by_cases z : f = g
      · subst z
        rw [lookD_hit] at h
        cases h
      · rw [lookD_miss z] at h
        rw [List.lookup_cons, show (f == g) = false from beq_eq_false_iff_ne.mpr z]
        exact look_none rfl r h
structure metP (c m : Str) (o : W) (μ : List O) (A : Prop) : Prop where
  ob : (∃ ks vs, o = .d (.ins c ks vs) ∧ lookD m ks vs = none) ∨ ∃ j ks vs, o = .loc j ∧ μ[j]? = some (.ins c ks vs) ∧ lookD m ks vs = none
  go : A
theorem metP.at {c m : Str} {o : W} {A : Prop} {F : Hp} {ρ : List Addr} {st : Dst} {σ : L2.St} {H : Hp} {v : V} (h : metP c m o st.μ A) (R : Rl X.K n F ρ st σ H) (r : RepW X.K F ρ o v) :
    ∃ a dx fs, v = .ref a ∧ H a = some (.ins (He.ga X.K c) dx fs) ∧ fs.lookup m = none := by
  rcases h.ob with ⟨ks, vs, rfl, l⟩ | ⟨j, ks, vs, rfl, em, l⟩
  · have r : Rep X.K F (.ins c ks vs) v := r
    unfold Rep at r
    obtain ⟨a, dx, fs, rfl, e1, e2, e3⟩ := r
    exact ⟨a, dx, fs, rfl, R.ok.sub _ _ e1, look_none e2 e3 l⟩
  · obtain ⟨a, dx, fs, rfl, _, _, e1, e2, e3⟩ := loc_ins R.ok r em
    exact ⟨a, dx, fs, rfl, e1, look_none e2 e3 l⟩
structure MtD (P : Program) (w : World) (K : PySem.W.Frag) (mg : Str → Option Value) (base : Heap) (c m : Str) (k j : Nat) (sp : DSp) : Prop where
  ex : ∃ f fd ps, FnOk P w K mg base (L2.CX P w) k f fd ps (SpD K j sp) ∧ Cls K (He.ga K c) ∧ Meth K (He.ga K c) m f ∧ Binds K fd ps []
def wMeth (c m : Str) (j : Nat) (sp : DSp) (wo : DE) (wa : DA) : DE := fun st Q E => wo st (fun o st1 => metP c m o st1.μ (wa st1 (fun ws st2 => (o :: ws).length = j ∧ wFn sp (o :: ws) st2 Q E) E)) E
theorem pd_meth {pl : Sem Bool} {c m : Str} {k j : Nat} {sp : DSp} {wo : DE} {wa : DA} {apos : Pos} (D : MtD X.prog X.w X.K X.mg X.base c m k j sp) (hr : Room k X.A) (ho : PD X n o wo) (ha : PAD X n (e :: es) wa)
    (hst : starEach (e :: es) X.env = (false, eval e X.env) :: starEach es X.env := by rfl) (hpl : (backTo pos (starEach es X.env)).any (·.1) = false := by rfl)
    (ht : eval (.Call (.Attribute o m apos) (e :: es) [] pos) X.env = (do
      let ov ← eval o X.env
      standAt apos.atName
      let (f, first) ← holding [ov] (getMethod ov m pl)
      callWith pos f first (backTo pos (starEach (e :: es) X.env)) (backToKw pos (keywordEach [] X.env))) := by rfl) :
    PD X n (.Call (.Attribute o m apos) (e :: es) [] pos) (wMeth c m j sp wo wa) := by
  obtain ⟨f, fd, ps, Fn, hc, hm, hb⟩ := D.ex
  refine ⟨fun pins s σ H F ρ st Q E I R tk hw => ?_⟩
  refine PySem.W.methodCall_KW (pl := pl) (thn (ho.run pins s σ H F ρ st _ E I R tk hw) fun u s1 ⟨v, o1, st1, H1, F1, ρ1, I1, rv, p1, R1, r1, h1⟩ => ?_) ht
  obtain ⟨a, dx, fs, rfl, ea, l⟩ := h1.at R1 r1
  obtain rfl : u = Value.ref a := rv
  refine getmeth_ok I1 ea hc hm l ?_
  refine PySem.W.callWith_K (first := [.ref a]) (h₀ := X.base) I.ok.mod.kin hm.kp (thn (ha.run pos pins s1 σ H1 F1 ρ1 st1 _ E I1 R1 tk h1.go) fun us s2 ⟨vs, ws, st2, H2, F2, ρ2, I2, r, p2, R2, rw, q⟩ => ⟨I2.kIn, ?_⟩) hst hpl
  refine thn (run_fnS (us := .ref a :: us) (vs := .ref a :: vs) Fn hr hb (passAt tk σ) I2 (.cons rfl r) (call_sp (ws := o1 :: ws) R2 ⟨_, _, rfl, r1.post p2, rw⟩ q.1 q.2 fun cls d H' z => z)) fun u s3 ⟨v, H3, I3, r3, w', st', F', ρ', p3, R3, rw3, q3⟩ => ?_
  exact ⟨v, w', st', H3, F', ρ', I3, r3, (p1.trans p2 R1.ok.dom).trans p3 R2.ok.dom, R3, rw3, q3⟩
structure PrD (P : Program) (w : World) (K : PySem.W.Frag) (mg : Str → Option Value) (base : Heap) (c f : Str) (k : Nat) (sp : DSp) : Prop where
  ex : ∃ p g fd ps, FnOk P w K mg base (L2.CX P w) k g fd ps (SpD K 1 sp) ∧ Cls K (He.ga K c) ∧ PropOf K (He.ga K c) f p g ∧ Binds K fd ps []
structure prpP (c : Str) (sp : DSp) (o : W) (st : Dst) (Q : DQ) : Prop where
  ob : (∃ ks vs, o = .d (.ins c ks vs)) ∨ ∃ j ks vs, o = .loc j ∧ st.μ[j]? = some (.ins c ks vs)
  go : wFn sp [o] st Q (fun _ _ => False)
def wProp (c : Str) (sp : DSp) (wo : DE) : DE := fun st Q E => wo st (fun o st1 => prpP c sp o st1 Q) E
theorem pd_prop {c f : Str} {k : Nat} {sp : DSp} {wo : DE} (D : PrD X.prog X.w X.K X.mg X.base c f k sp) (hr : Room (k + 1) X.A) (ho : PD X n o wo) (hb : attributeBase o f X.env (eval o X.env) = eval o X.env := by rfl) : PD X n (.Attribute o f pos) (wProp c sp wo) := by
  obtain ⟨p, g, fd, ps, Fn, hc, hp, hbd⟩ := D.ex
  refine pd_of (pe_prop (dvs := []) (E := fun _ _ _ => False) ho.pe hc hp Fn hr hbd .nil (fun _ _ _ _ _ _ _ ⟨_, _, _, _, _, _, _, _, _, _, _, _, z⟩ => z.elim) hb) fun σ H F ρ st Q E R tk hw => ?_
  refine tE.use R tk hw fun v o1 st1 H1 F1 ρ1 p1 R1 r1 h1 => ?_
  have ob : ∃ a dx fs, v = .ref a ∧ H1 a = some (.ins (He.ga X.K c) dx fs) := by
    rcases h1.ob with ⟨ks, vs, rfl⟩ | ⟨j, ks, vs, rfl, em⟩
    · have r1 : Rep X.K F1 (.ins c ks vs) v := r1
      unfold Rep at r1
      obtain ⟨a, dx, fs, rfl, e1, e2, e3⟩ := r1
      exact ⟨a, dx, fs, rfl, R1.ok.sub _ _ e1⟩
    · obtain ⟨a, dx, fs, rfl, _, _, e1, e2, e3⟩ := loc_ins R1.ok r1 em
      exact ⟨a, dx, fs, rfl, e1⟩
  obtain ⟨a, dx, fs, rfl, ea⟩ := ob
  refine ⟨a, dx, fs, rfl, ea, ?_⟩
  have sp1 := call_sp (X := X) (n := n) (m := 1) (σ := σ) (ws := [o1]) (vs := [.ref a]) (EX := fun _ _ _ => False) R1 ⟨_, _, rfl, r1, rfl⟩ rfl h1.go (fun cls d H' ⟨_, _, _, _, _, _, z⟩ => z)
  obtain ⟨F0, ρ0, μ0, ws0, QD, ED, k1, k2, k3, k4, k5, k6⟩ := sp1
  refine ⟨F0, ρ0, μ0, ws0, QD, ED, k1, k2, k3, k4, fun w μ' v F' ρ' H' a1 a2 a3 a4 => ?_, k6⟩
  obtain ⟨w', st', F2, ρ2, b1, b2, b3, b4⟩ := k5 w μ' v F' ρ' H' a1 a2 a3 a4
  exact ⟨w', st', F2, ρ2, p1.trans b1 R1.ok.dom, b2, b3, b4⟩
end
end Dl
namespace Dl
open PySem PySem.Spec PyProof.Rows L2
variable [TheW]
theorem goodB_ok {K : PySem.W.Frag} {t : Ty} (h : goodB K t = true) : TyGood K t := by
  cases t with
  | ty _ => trivial
  | own c =>
    obtain ⟨h1, h⟩ := He.ba h
    obtain ⟨h2, h⟩ := He.ba h
    obtain ⟨h3, h⟩ := He.ba h
    obtain ⟨h4, h5⟩ := He.ba h
    exact ⟨He.cls_ok h1, He.eqO_ok h2, He.eqO_ok h3, of_decide_eq_true h4, of_decide_eq_true h5⟩
theorem look_mem {α β : Type} [BEq α] [LawfulBEq α] {a : α} {b : β} : ∀ {l : List (α × β)}, l.lookup a = some b → (a, b) ∈ l
  | [], h => by cases h
  | (c, d) :: l, h => by
    rw [List.lookup_cons] at h
    cases q : (a == c) with
    | true =>
      rw [q] at h
      cases h
      rw [eq_of_beq q]
      exact List.mem_cons_self
    | false =>
      rw [q] at h
      exact List.mem_cons_of_mem _ (look_mem h)
theorem ansW_ok {K : PySem.W.Frag} {tbl : List ((Ty × Ty) × Bool)} (h : tblB K tbl = true) : AnsOk K (ansW tbl) := by
  have key : ∀ t c b, ansW tbl t c = some b → PySem.W.kitOne K (t.v K) (c.v K) = some b ∧ TyGood K t := fun t c b e => by
    have tb : tbl.lookup (t, c) = some b → PySem.W.kitOne K (t.v K) (c.v K) = some b ∧ TyGood K t := fun e => by
      have := List.all_eq_true.mp h _ (look_mem e)
      obtain ⟨h1, h2⟩ := He.ba this
      exact ⟨of_decide_eq_true h2, goodB_ok h1⟩
    cases t with
    | own a => exact tb e
    | ty a =>
      cases c with
      | own d => exact tb e
      | ty d => exact ⟨(ansB_ok K).one _ _ _ e, trivial⟩
  exact ⟨fun t c b e => (key t c b e).1, fun t c b e => (key t c b e).2⟩
theorem PrF.told {K : PySem.W.Frag} {d : PrF} (e : prV K d = d.val) (h : d.ok K = true) (hx : d.xi = false ∧ d.sm = false) :
    PropOf K (He.ga K d.c) d.m (prP K d.c d.m) (prG K d.c d.m) ∧ ∃ fd, FunD K d.m d.qual (defArgs d.st) (defBody d.st) (defScope d.st) [] [] (prG K d.c d.m) fd := by
  obtain ⟨dc, dm, dq, dst, dxi, dsm⟩ := d
  obtain rfl : dxi = false := hx.1
  obtain rfl : dsm = false := hx.2
  obtain ⟨h1, h⟩ := He.ba (show (_ && _) = true from h)
  obtain ⟨h2, h⟩ := He.ba h
  obtain ⟨h3, h⟩ := He.ba h
  obtain ⟨h4, h⟩ := He.ba h
  obtain ⟨h5, h6⟩ := He.ba h
  refine ⟨⟨He.eqO_ok h1, He.eqO_ok h2, of_decide_eq_true h3, ?_⟩, ?_⟩
  · unfold prG
    revert h4
    show _ → ∃ r, PySem.W.recIn K (prP K dc dm) "property" = some (.ref (match PySem.W.recIn K (prP K dc dm) "property" with | some (.ref g :: _) => g | _ => 0) :: r)
    cases PySem.W.recIn K (prP K dc dm) "property" with
    | none => intro z; cases z
    | some l =>
      cases l with
      | nil => intro z; cases z
      | cons v r =>
        cases v with
        | ref g => exact fun _ => ⟨r, rfl⟩
        | _ => intro z; cases z
  · have e : fnA K (prG K dc dm) = (PrF.mk dc dm dq dst false false).val := e
    unfold fnA at e
    revert h6 e
    cases q : K.lookup (prG K dc dm) with
    | none => intro h6 e; cases e
    | some o =>
      obtain ⟨oc, od, dt, osl⟩ := o
      cases dt with
      | func fd =>
        intro h6 e
        obtain ⟨n1, n2, n3, n4, n5, n6, n7, n8, n9, n10, n11, n12, n13, n14, n15⟩ := fd
        have e2 : (some (n1, n2, n3, n4, n5, n6, n7, n15) : He.FnW) = some (dm, dq, defArgs dst, .stmts (defBody dst), defScope dst, mainGlobals, [], builtinsNs) := e
        simp only [Option.some.injEq, Prod.mk.injEq] at e2
        obtain ⟨z1, z2, z3, z4, z5, z6, z7, z8⟩ := e2
        subst z1 z2 z3 z4 z5 z6 z7 z8
        obtain ⟨k1, k2⟩ := He.ba (show (PySem.W.codeIn K n13 n2 && (He.dflB K n8 [] && He.kwdB K n9 [])) = true from h6)
        obtain ⟨k3, k4⟩ := He.ba k2
        exact ⟨_, ⟨oc, od, n8, n9, n10, n11, n12, n13, n14, osl, rfl, q, k1, He.dflB_ok k3, He.kwdB_ok k4⟩, h5⟩
      | _ => intro h6 e; cases e
theorem SaysP.pr {fa : List He.Fa} {fn : List He.DefD} {ps : List PrF} {tf : List He.Defn} {ex : PySem.W.Frag → Bool} {w : World} {h : Heap} {K : PySem.W.Frag} (c : SaysP fa fn ps tf ex w h K) (i : Nat) {d : PrF} (e : ps[i]? = some d) (hx : d.xi = false ∧ d.sm = false) :
    PropOf K (He.ga K d.c) d.m (prP K d.c d.m) (prG K d.c d.m) ∧ ∃ fd, FunD K d.m d.qual (defArgs d.st) (defBody d.st) (defScope d.st) [] [] (prG K d.c d.m) fd := by
  obtain ⟨h1, _⟩ := He.ba (show (ps.all (fun d => d.ok K) && (ex K && lamDefs.all fun p => tf.contains p || !PySem.W.codeHdIn K (He.cT K p).1 (He.cT K p).2)) = true from c.x.more)
  have e2 : (ps.map (prV K))[i]? = (ps.map PrF.val)[i]? := by rw [c.p]
  rw [List.getElem?_map, List.getElem?_map, e] at e2
  exact PrF.told (Option.some.inj e2) (List.all_eq_true.mp h1 d (List.mem_of_getElem? e)) hx
theorem SaysP.xi {fa : List He.Fa} {fn : List He.DefD} {ps : List PrF} {tf : List He.Defn} {ex : PySem.W.Frag → Bool} {w : World} {h : Heap} {K : PySem.W.Frag} (c : SaysP fa fn ps tf ex w h K) (i : Nat) {d : PrF} (e : ps[i]? = some d) : prV K d = d.val := by
  have e2 : (ps.map (prV K))[i]? = (ps.map PrF.val)[i]? := by rw [c.p]
  rw [List.getElem?_map, List.getElem?_map, e] at e2
  exact Option.some.inj e2
theorem SaysP.more {fa : List He.Fa} {fn : List He.DefD} {ps : List PrF} {tf : List He.Defn} {ex : PySem.W.Frag → Bool} {w : World} {h : Heap} {K : PySem.W.Frag} (c : SaysP fa fn ps tf ex w h K) : ex K = true :=
  (He.ba (He.ba (show (ps.all (fun d => d.ok K) && (ex K && lamDefs.all fun p => tf.contains p || !PySem.W.codeHdIn K (He.cT K p).1 (He.cT K p).2)) = true from c.x.more)).2).1
theorem SaysP.tl {fa : List He.Fa} {fn : List He.DefD} {ps : List PrF} {tf : List He.Defn} {ex : PySem.W.Frag → Bool} {w : World} {h : Heap} {K : PySem.W.Frag} (c : SaysP fa fn ps tf ex w h K) : ∀ p ∈ lamDefs, PySem.W.codeHdIn K (He.cT K p).1 (He.cT K p).2 = true → p ∈ tf := fun p hp e => by
  have z := List.all_eq_true.mp (He.ba (He.ba (show (ps.all (fun d => d.ok K) && (ex K && lamDefs.all fun p => tf.contains p || !PySem.W.codeHdIn K (He.cT K p).1 (He.cT K p).2)) = true from c.x.more)).2).2 p hp
  rw [e] at z
  simpa using z
structure DfM (K : PySem.W.Frag) (c m qual : Str) (st : Stmt) (dvs : List V) : Prop where
  cl : Cls K (He.ga K c)
  mt : Meth K (He.ga K c) m (He.ma K (He.ga K c) m)
  ex : ∃ fd, FunD K m qual (defArgs st) (defBody st) (defScope st) dvs [] (He.ma K (He.ga K c) m) fd
structure DfI (K : PySem.W.Frag) (c qual : Str) (st : Stmt) (dvs : List V) : Prop where
  mkr : Mk K (He.ga K c) (He.ma K (He.ga K c) "__init__")
  ex : ∃ fd, FunD K "__init__" qual (defArgs st) (defBody st) (defScope st) dvs [] (He.ma K (He.ga K c) "__init__") fd
structure DfP (K : PySem.W.Frag) (c m qual : Str) (st : Stmt) : Prop where
  cl : Cls K (He.ga K c)
  ex : ∃ p g fd, PropOf K (He.ga K c) m p g ∧ FunD K m qual (defArgs st) (defBody st) (defScope st) [] [] g fd
section
variable {P : Program} {w : World} {K : PySem.W.Frag} {mg : Str → Option Value} {base : Heap} {c m qual : Str} {st : Stmt} {N ps : List Str} {k : Nat} {sp : DSp} {wb : DS}
abbrev BodyQ (P : Program) (w : World) (K : PySem.W.Frag) (mg : Str → Option Value) (base : Heap) (qual : Str) (st : Stmt) (N : List Str) (k : Nat) (wb : DS) : Prop :=
  ∀ (f : Addr) (cdv : Value) (A : Around) (outer : List Env) (s : Shared) (H : Hp) (E : XK) (n : En), Room k (A.deeper (envOfC qual (defScope st) s.heap.objs.size f cdv)) → PSSD (cxD P w K mg base N qual (defScope st) f cdv A outer s H E) n (defBody st) wb
abbrev ReadD (sp : DSp) (m : Nat) (N : List Str) (wb : DS) : Prop := ∀ ws μ Q E, ws.length = m → sp ws μ Q E → wb { nx := fun st => Q (.d .non) st.μ, rt := Q, ex := fun x st => E x st.μ } ⟨startD N.length ws, μ⟩
theorem mtD_of (D : DfM K c m qual st []) (S : FnScope N ps (defScope st)) (hb : BodyQ P w K mg base qual st N k wb) (hc : ReadD sp ps.length N wb)
    (bd : ∀ (kV doc pm : Value) (an : Option Addr) (cdv ct : Value) (us : List Value), us.length = ps.length → bindArgs (PySem.W.fnOf m qual (defArgs st) (defBody st) (defScope st) .none kV doc pm an cdv ct) ⟨us, []⟩ = pure (ps.zip us)) : MtD P w K mg base c m (k + 1) ps.length sp := by
  obtain ⟨fd, F⟩ := D.ex
  exact ⟨_, fd, ps, ok_ofD F S rfl (fun cdv A outer s H E n hr => hb _ cdv A outer s H E n hr) hc, D.cl, D.mt, F.bindsN bd⟩
theorem prD_of (D : DfP K c m qual st) (S : FnScope N ps (defScope st)) (h1 : ps.length = 1) (hb : BodyQ P w K mg base qual st N k wb) (hc : ReadD sp 1 N wb)
    (bd : ∀ (kV doc pm : Value) (an : Option Addr) (cdv ct : Value) (us : List Value), us.length = ps.length → bindArgs (PySem.W.fnOf m qual (defArgs st) (defBody st) (defScope st) .none kV doc pm an cdv ct) ⟨us, []⟩ = pure (ps.zip us)) : PrD P w K mg base c m (k + 1) sp := by
  obtain ⟨p, g, fd, hp, F⟩ := D.ex
  exact ⟨p, g, fd, ps, ok_ofD F S h1.symm (fun cdv A outer s H E n hr => hb _ cdv A outer s H E n hr) hc, D.cl, hp, F.bindsN bd⟩
theorem mkD_of (D : DfI K c qual st []) (hm : mg c = some (.ref (He.ga K c))) (S : FnScope N ps (defScope st)) (hb : BodyQ P w K mg base qual st N k wb) (hc : ReadD sp ps.length N wb)
    (bd : ∀ (kV doc pm : Value) (an : Option Addr) (cdv ct : Value) (us : List Value), us.length = ps.length → bindArgs (PySem.W.fnOf "__init__" qual (defArgs st) (defBody st) (defScope st) .none kV doc pm an cdv ct) ⟨us, []⟩ = pure (ps.zip us)) : MkD P w K mg base c (k + 1) ps.length [] sp := by
  obtain ⟨fd, F⟩ := D.ex
  exact ⟨_, fd, ps, [], [], ok_ofD F S rfl (fun cdv A outer s H E n hr => hb _ cdv A outer s H E n hr) hc, D.mkr, hm, F.bindsN bd, .nil, fun _ => RepL.nil⟩
end
end Dl
namespace Dl
open PySem PySem.Spec PyProof.Rows L2
variable [TheW]
section
variable {K : PySem.W.Frag} {mg : Str → Option Value} {h : Heap} {fa : List He.Fa} {fn : List He.DefD}
theorem dfM_of (c : He.SaysD fa fn K) {i j l : Nat} {cl m qual : Str} {st : Stmt} (e1 : fn[i]? = some ⟨(cl, some m), m, qual, defArgs st, defBody st, defScope st, [], []⟩) (e2 : fa[j]? = some (.cls cl)) (e3 : fa[l]? = some (.meth cl m)) : DfM K cl m qual st [] := by
  obtain ⟨fd, F⟩ := c.def_ i e1
  exact ⟨He.cls_ok (c.fact j e2), He.meth_ok (c.fact l e3), fd, F⟩
theorem dfI_of (c : He.SaysD fa fn K) {i j : Nat} {cl qual : Str} {st : Stmt} {dfl : List He.Dv} (e1 : fn[i]? = some ⟨(cl, some "__init__"), "__init__", qual, defArgs st, defBody st, defScope st, dfl, []⟩) (e2 : fa[j]? = some (.mkr cl)) : DfI K cl qual st (dfl.map (He.Dv.v K)) := by
  obtain ⟨fd, F⟩ := c.def_ i e1
  exact ⟨He.mkr_ok (c.fact j e2), fd, F⟩
theorem dfP_of {ps : List PrF} {tf : List He.Defn} {ex : PySem.W.Frag → Bool} {w : World} (c : SaysP fa fn ps tf ex w h K) {i j : Nat} {cl m qual : Str} {st : Stmt} (e1 : ps[i]? = some ⟨cl, m, qual, st, false, false⟩) (e2 : fa[j]? = some (.cls cl)) : DfP K cl m qual st := by
  obtain ⟨hp, fd, F⟩ := c.pr i e1 ⟨rfl, rfl⟩
  exact ⟨He.cls_ok (c.x.t.d.fact j e2), _, _, fd, hp, F⟩
end
end Dl
namespace Dl
open PySem PySem.Spec PyProof.Rows L2
variable [TheW]
inductive SrcOk (K : PySem.W.Frag) (F0 : Hp) : V → List D → Prop
  | lst {p : Addr} {vs : List V} {xs : List D} (h : F0 p = some (.lst vs)) (r : RepL K F0 xs vs) : SrcOk K F0 (.ref p) xs
  | tup {p : Addr} {vs : List V} {xs : List D} (h : TupAt K F0 p vs) (r : RepL K F0 xs vs) : SrcOk K F0 (.ref p) xs
  | str (x : List Nat) : SrcOk K F0 (.str (mkS x)) (x.map fun c => .str [c])
theorem srcOk_of {K : PySem.W.Frag} {F0 : Hp} {d : D} {xs : List D} {v : V} (e : items d = some xs) (r : Rep K F0 d v) : SrcOk K F0 v xs := by
  cases d with
  | str x => cases e; obtain rfl := r; exact .str _
  | tup ys =>
    cases e
    unfold Rep at r
    obtain ⟨p, vs, rfl, h, r⟩ := r
    exact .tup h r
  | lst ys =>
    cases e
    unfold Rep at r
    obtain ⟨p, vs, rfl, h, r⟩ := r
    exact .lst h r
  | _ => cases e
theorem getR : ∀ {vs : List V} {us : List Value} {i : Nat} {u : Value}, Vals vs us → us[i]? = some u → ∃ v, vs[i]? = some v ∧ L2.RelV v u
  | _, _, _, _, .nil, e => by simp at e
  | _, _, 0, _, .cons r _, e => by simp at e; subst e; exact ⟨_, rfl, r⟩
  | _, _, i + 1, x, .cons _ t, e => by
    obtain ⟨v, h1, h2⟩ := getR (i := i) t (by simpa using e)
    exact ⟨v, by simpa using h1, h2⟩
structure SrcD (K : PySem.W.Frag) (F0 : Hp) (u : Value) (ds : List D) (o : Obj) (Hf : Heap → Prop) (src : List Addr) (It : Addr → Nat → Heap → Prop) : Prop where
  beg : Begins u o Hf
  hf : ∀ (X : Cx) (pins : List (Addr × Obj)) (σ : L2.St) (H : Hp) (s : Shared), X.K = K → Inv X pins σ H s → SubH F0 H → Hf s.heap ∧ ∀ b ∈ src, b < s.heap.objs.size
  st0 : ∀ i h, h.get? i = some o → It i 0 h
  keep : ∀ i k (h h' : Heap), It i k h → (∀ o, h.get? i = some o → h'.get? i = some o) → It i k h'
  obj : ∀ i k (h : Heap), It i k h → ∃ o, h.get? i = some o ∧ ∀ v, o.data ≠ .cell v
  draw : ∀ (X : Cx) (pins : List (Addr × Obj)) (σ : L2.St) (H : Hp) (s : Shared), X.K = K → Inv X pins σ H s → SubH F0 H → ∀ i, i ∉ src → ∀ A : Around, A.handled = none →
    ∃ P St, Draws X.prog X.w A i (i :: src) ds.length P St ∧ (∀ k h, St k h → It i k h) ∧ (∀ k, It i k s.heap → St k s.heap) ∧ ∀ k x, P k x → ∃ y d, L2.RelV y x ∧ ds[k]? = some d ∧ Rep K F0 d y
theorem src_of {K : PySem.W.Frag} {F0 : Hp} {v : V} {ds : List D} {u : Value} (S : SrcOk K F0 v ds) (rv : L2.RelV v u) : ∃ o Hf src It, SrcD K F0 u ds o Hf src It := by
  cases S with
  | @lst p vs _ h r =>
    cases rv
    refine ⟨{ cls := .type "list_iterator", data := .fields #[.ref p, .int 0 0] }, fun h => ∃ its : Array Value, h.IsList p its, [p], fun i k h => h.IsListIter i p k, ⟨?_, ?_, ?_, ?_, ?_, ?_⟩⟩
    · exact ⟨fun prog w A E s Q ⟨its, hl⟩ q => wpAny_pyIter_list hl q, fun h h' ⟨its, x⟩ hk => ⟨its, x.at fun o e => hk p o e⟩, rfl⟩
    · intro X pins σ H s hK I sub
      subst hK
      obtain ⟨its, rr, pp, _⟩ := I.list (.of (sub _ _ h))
      refine ⟨⟨_, pp.isList⟩, fun b hb => ?_⟩
      obtain rfl : b = p := by simpa using hb
      obtain ⟨o, e, _⟩ := pp.isList
      exact Heap.lt_size e
    · intro i h e
      exact ⟨_, e, rfl, rfl⟩
    · intro i k h h' st hk
      exact st.at hk
    · intro i k h ⟨o, e, _, d⟩
      exact ⟨o, e, fun v z => by rw [d] at z; cases z⟩
    · intro X pins σ H s hK I sub i hi A hh
      subst hK
      obtain ⟨its, rr, pp, _⟩ := I.list (.of (sub _ _ h))
      have e : its.toArray.size = ds.length := by rw [List.size_toArray, ← rr.length, r.len]
      have z := Draws.list (prog := X.prog) (w := X.w) hh i p (fun z => hi (by rw [z]; simp)) its.toArray
      rw [e] at z
      refine ⟨_, _, z, fun k h st => st.1, fun k st => ⟨st, pp.isList⟩, fun k x hx => ?_⟩
      obtain ⟨y, hy, ry⟩ := getR rr (by simpa using hx)
      obtain ⟨d, hd, rd⟩ := r.getV hy
      exact ⟨y, d, ry, hd, rd⟩
  | @tup p vs _ h r =>
    cases rv
    refine ⟨{ cls := .type "tuple_iterator", data := .fields #[.ref p, .int 0 0] }, fun h => ∃ its : Array Value, h.IsTuple p its, [p], fun i k h => h.IsTupleIter i p k, ⟨?_, ?_, ?_, ?_, ?_, ?_⟩⟩
    · exact ⟨fun prog w A E s Q ⟨its, hl⟩ q => wpAny_pyIter_tuple hl q, fun h h' ⟨its, x⟩ hk => ⟨its, x.at fun o e => hk p o e⟩, rfl⟩
    · intro X pins σ H s hK I sub
      subst hK
      obtain ⟨its, rr, pp, _⟩ := I.tuple (h.sq sub)
      have pp : s.heap.IsTuple p its.toArray := pp
      refine ⟨⟨_, pp⟩, fun b hb => ?_⟩
      obtain rfl : b = p := by simpa using hb
      obtain ⟨o, e, _⟩ := pp
      exact Heap.lt_size e
    · intro i h e
      exact ⟨_, e, rfl, rfl⟩
    · intro i k h h' st hk
      exact st.at hk
    · intro i k h ⟨o, e, _, d⟩
      exact ⟨o, e, fun v z => by rw [d] at z; cases z⟩
    · intro X pins σ H s hK I sub i hi A hh
      subst hK
      obtain ⟨its, rr, pp, _⟩ := I.tuple (h.sq sub)
      have pp : s.heap.IsTuple p its.toArray := pp
      have e : its.toArray.size = ds.length := by rw [List.size_toArray, ← rr.length, r.len]
      have z := Draws.tuple (prog := X.prog) (w := X.w) hh i p (fun z => hi (by rw [z]; simp)) its.toArray
      rw [e] at z
      refine ⟨_, _, z, fun k h st => st.1, fun k st => ⟨st, pp⟩, fun k x hx => ?_⟩
      obtain ⟨y, hy, ry⟩ := getR rr (by simpa using hx)
      obtain ⟨d, hd, rd⟩ := r.getV hy
      exact ⟨y, d, ry, hd, rd⟩
  | str x =>
    obtain ⟨t, rfl⟩ := rv
    refine ⟨{ cls := .type (strIterType (mkS x)), data := .fields #[.str (mkS x) t, .int 0 0] }, fun _ => True, [], fun i k h => h.IsStrIter i (strIterType (mkS x)) (mkS x) t k, ⟨begins_text _ _, ?_, ?_, ?_, ?_, ?_⟩⟩
    · intro X pins σ H s hK I sub
      exact ⟨trivial, fun b hb => by cases hb⟩
    · intro i h e
      exact ⟨_, e, rfl, rfl⟩
    · intro i k h h' ⟨o, ho, r⟩ hk
      exact ⟨o, hk o ho, r⟩
    · intro i k h ⟨o, e, c, d⟩
      exact ⟨o, e, fun v z => by rw [d] at z; cases z⟩
    · intro X pins σ H s hK I sub i hi A hh
      have z := Draws.text (prog := X.prog) (w := X.w) hh i (mkS x) t
      have e : (mkS x).cps.size = (x.map fun c => D.str [c]).length := by simp [mkS]
      rw [e] at z
      refine ⟨_, _, z, fun k h st => st, fun k st => st, fun k y hx => ?_⟩
      obtain ⟨c, u, hc, rfl⟩ := hx
      have hc : x[k]? = some c := by simpa [mkS] using hc
      exact ⟨.str ⟨#[c]⟩, .str [c], ⟨u, rfl⟩, by simp [hc], rfl⟩
def ItzG (K : PySem.W.Frag) (F0 : Hp) (xs ys : List D) : It :=
  ⟨fun i H => SubH F0 H ∧ i < min xs.length ys.length, fun i H v H' => ∃ T x y d e, v = .ref T ∧ H T = none ∧ H' = upd H T (.tup [x, y]) ∧ xs[i]? = some d ∧ ys[i]? = some e ∧ Rep K F0 d x ∧ Rep K F0 e y,
    fun i H => SubH F0 H ∧ min xs.length ys.length ≤ i⟩
theorem turn_zipG {P : Program} {w : World} {K : PySem.W.Frag} {F0 : Hp} {u1 u2 : Value} {xs ys : List D} {o1 o2 : Obj} {Hf1 Hf2 : Heap → Prop} {src1 src2 : List Addr} {It1 It2 : Addr → Nat → Heap → Prop} (S1 : SrcD K F0 u1 xs o1 Hf1 src1 It1) (S2 : SrcD K F0 u2 ys o2 Hf2 src2 It2)
    {elts : List Expr} {kk : Nat} {tpos : Pos} {z TI TO i1 i2 : Addr} (S : ZipSep2 z TI TO i1 i2 (i1 :: src1) (i2 :: src2)) (n1 : i1 ∉ src1) (n2 : i2 ∉ src2) :
    Turn P w K (.Tuple elts kk tpos) (ItzG K F0 xs ys) [z, TI, TO, i1, i2] z (fun i h => i ≤ min xs.length ys.length ∧ IsZip h z TI TO .none ∧ IsTupOf2 h TI (.ref i1) (.ref i2) ∧ (∃ x y, IsTupOf2 h TO x y) ∧ It1 i1 i h ∧ It2 i2 i h) where
  mem := by simp
  obj := fun i h st c hc => by
    obtain ⟨_, hz, hTI, ⟨x, y, hTO⟩, h1, h2⟩ := st
    have e' : c = z ∨ c = TI ∨ c = TO ∨ c = i1 ∨ c = i2 := by simpa using hc
    rcases e' with q | q | q | q | q
    · rw [q]; exact ⟨_, hz, fun v q => nomatch q⟩
    · rw [q]; exact ⟨_, hTI, fun v q => nomatch q⟩
    · rw [q]; exact ⟨_, hTO, fun v q => nomatch q⟩
    · rw [q]; exact S1.obj _ _ _ h1
    · rw [q]; exact S2.obj _ _ _ h2
  keep := fun i h h' st k => by
    obtain ⟨hi, hz, hTI, ⟨x, y, hTO⟩, h1, h2⟩ := st
    exact ⟨hi, k z (by simp) _ hz, k TI (by simp) _ hTI, ⟨x, y, k TO (by simp) _ hTO⟩, S1.keep _ _ _ _ h1 fun o q => k i1 (by simp) o q, S2.keep _ _ _ _ h2 fun o q => k i2 (by simp) o q⟩
  item := by
    intro X hP hw hK hc i pins s σ H E I hf st hg
    subst hP hw
    obtain ⟨hi, hz, hTI, ⟨x0, y0, hTO⟩, h1, h2⟩ := st
    obtain ⟨sub, hlt⟩ := hg
    have hh := I.ok.hd hc
    obtain ⟨P1, St1, D1, g1, b1, f1⟩ := S1.draw X pins σ H s hK I sub i1 n1 X.A.in1 hh
    obtain ⟨P2, St2, D2, g2, b2, f2⟩ := S2.draw X pins σ H s hK I sub i2 n2 X.A.in1 hh
    have hzl : z < s.heap.objs.size := Heap.lt_size hz
    refine (GoesN.zip2 S D1 D2).goes i s _ E hlt ⟨hz, hTI, ⟨x0, y0, hTO⟩, b1 _ h1, b2 _ h2⟩ fun v h' tk hY st' hk htk => ?_
    obtain ⟨T, x, y, rfl, hT, hx, hy, o, ho, hoc, hod⟩ := hY
    obtain ⟨vx, dx, rx, ex, px⟩ := f1 _ _ hx
    obtain ⟨vy, dy, ry, ey, py⟩ := f2 _ _ hy
    obtain ⟨hz', hTI', ⟨x1, y1, hTO'⟩, k1, k2⟩ := st'
    have new : ObjOk X.prog X.w (upd H T (.tup [vx, vy])) h' T (.tup [vx, vy]) := ⟨by show 2 ≤ sizeLine; decide, [x, y], .cons rx (.cons ry .nil), ⟨o, ho, hoc, hod⟩⟩
    have I1 : Inv X pins σ (upd H T (.tup [vx, vy])) { s with heap := h', toks := tk } :=
      I.turnedNew (t' := tk) (ch := [z, TO, i1, i2]) hk (fun c hc => hf c (by simp only [List.mem_cons, List.not_mem_nil, or_false] at hc ⊢; rcases hc with q | q | q | q <;> simp [q])) hT new
    refine ⟨.ref T, _, I1, rfl, ⟨T, vx, vy, dx, dy, rfl, I.hok.fresh hT, rfl, ex, ey, px, py⟩, ⟨hlt, hz', hTI', ⟨x1, y1, hTO'⟩, g1 _ _ k1, g2 _ _ k2⟩, fun c hcm => ?_⟩
    have hlt : c < s.heap.objs.size := by
      have e' : c = z ∨ c = TI ∨ c = TO ∨ c = i1 ∨ c = i2 := by simpa using hcm
      rcases e' with q | q | q | q | q
      · rw [q]; exact hzl
      · rw [q]; exact Heap.lt_size hTI
      · rw [q]; exact Heap.lt_size hTO
      · rw [q]; obtain ⟨_, e1, _⟩ := S1.obj _ _ _ h1; exact Heap.lt_size e1
      · rw [q]; obtain ⟨_, e2, _⟩ := S2.obj _ _ _ h2; exact Heap.lt_size e2
    rw [upd_ne (Nat.ne_of_lt (Nat.lt_of_lt_of_le hlt hT))]
    exact (hf c hcm).1
  done := by
    intro X hP hw hK hc i pins s σ H E I hf st hg
    subst hP hw
    obtain ⟨hi, hz, hTI, ⟨x0, y0, hTO⟩, h1, h2⟩ := st
    obtain ⟨sub, hle⟩ := hg
    have hh := I.ok.hd hc
    obtain ⟨P1, St1, D1, g1, b1, f1⟩ := S1.draw X pins σ H s hK I sub i1 n1 X.A.in1 hh
    obtain ⟨P2, St2, D2, g2, b2, f2⟩ := S2.draw X pins σ H s hK I sub i2 n2 X.A.in1 hh
    have e : i = min xs.length ys.length := Nat.le_antisymm hi hle
    rw [e] at h1 h2
    exact (GoesN.zip2 (elts := elts) (x1 := kk) (pos := tpos) S D1 D2).stops s _ E ⟨hz, hTI, ⟨x0, y0, hTO⟩, b1 _ h1, b2 _ h2⟩ fun h' tk hk htk =>
      I.turnedL (t' := tk) (ch := [z, TO, i1, i2]) hk fun c hc => hf c (by simp only [List.mem_cons, List.not_mem_nil, or_false] at hc ⊢; rcases hc with q | q | q | q <;> simp [q])
  self := fun A i s Q E st h => wpAny_pyIter_zip st.2.1 h
theorem itd_zipG {K : PySem.W.Frag} {F0 : Hp} {xs ys : List D} : ItD K F0 (ItzG K F0 xs ys) (zipD xs ys) where
  go := fun i F H s1 s2 h => ⟨s1.trans s2, by simpa [zipD] using h⟩
  yld := fun i F H x H' s1 s2 h ⟨T, vx, vy, d, e, e0, hT, eH, ex, ey, px, py⟩ => by
    subst e0 eH
    obtain ⟨g, r⟩ := rep_pair (K := K) (F := F) (H := H) s2 hT (Rep.sub s1 _ _ px) (Rep.sub s1 _ _ py)
    exact ⟨_, _, zipD_get ex ey, g, r⟩
  stop := fun i F H s1 s2 h => ⟨s1.trans s2, by simpa [zipD] using h⟩
def wZipA (wa : DA) : DI := fun st Q E => wa st (fun ws st1 => match ws with
  | [.d x, .d y] => match items x, items y with
    | some xs, some ys => Q (zipD xs ys) st1
    | _, _ => False
  | _ => False) E
section
variable {X : Cx} {n : En} {a b e o tg : Expr} {es : List Expr} {pos pp : Pos} {wa : DA}
theorem pid_zipA {elts : List Expr} {kk : Nat} {tpos : Pos} (hg : Gl X "zip") (hm : X.mg "zip" = none) (ha : PAD X n [a, b] wa) (hs : starEach [a, b] X.env = (false, eval a X.env) :: starEach [b] X.env := by rfl) (hpl : (backTo pos (starEach [b] X.env)).any (·.1) = false := by rfl) :
    PID X n (.Tuple elts kk tpos) (.Call (.Name "zip" pp) [a, b] [] pos) (wZipA wa) := by
  refine ⟨fun pins s σ H F ρ st Q E I R tk hw => ?_⟩
  refine Call_ (ld_blt I hg hm PyProof.Rows.boot_zip (PyProof.Rows.callWith_type1 (thn (ha.run pos pins s σ H F ρ st _ E I R tk hw) fun us s1 ⟨vs, ws, st1, H1, F1, ρ1, I1, r, p1, R1, rww, q⟩ => ?_) hs hpl))
  dsimp only at q
  split at q
  · rename_i x y
    split at q
    · rename_i xs ys ex ey
      obtain ⟨v1, r0, rfl, q1, v2, r0, rfl, q2, rfl⟩ := rww
      have q1 : Rep X.K F1 x v1 := q1
      have q2 : Rep X.K F1 y v2 := q2
      cases r with
      | cons r1 rr =>
        cases rr with
        | cons r2 rr =>
          cases rr
          obtain ⟨o1, Hf1, src1, It1, S1⟩ := src_of (srcOk_of ex q1) r1
          obtain ⟨o2, Hf2, src2, It2, S2⟩ := src_of (srcOk_of ey q2) r2
          obtain ⟨b1, l1⟩ := S1.hf X pins σ H1 s1 rfl I1 R1.ok.sub
          obtain ⟨b2, l2⟩ := S2.hf X pins σ H1 s1 rfl I1 R1.ok.sub
          refine zip_begins2 S1.beg S2.beg b1 b2 fun h' hz hTI hTO g1 g2 hsz hk => wpAny_pyIter_zip hz ?_
          have I2 : Inv X pins σ H1 { s1 with heap := h' } := I1.kept (t' := s1.toks) hk
          refine ⟨s1.heap.objs.size + 4, [s1.heap.objs.size + 4, s1.heap.objs.size + 2, s1.heap.objs.size + 3, s1.heap.objs.size, s1.heap.objs.size + 1], _, _, H1, rfl, I2,
            turn_zipG S1 S2 (zip_sep2 l1 l2) (fun z => Nat.lt_irrefl _ (l1 _ z)) (fun z => Nat.lt_irrefl _ (Nat.lt_of_le_of_lt (Nat.le_succ _) (l2 _ z))), ⟨Nat.zero_le _, hz, hTI, ⟨_, _, hTO⟩, S1.st0 _ _ g1, S2.st0 _ _ g2⟩, fun c hcm => ?_, _, st1, F1, ρ1, p1, R1, itd_zipG, q⟩
          have e' : c = s1.heap.objs.size + 4 ∨ c = s1.heap.objs.size + 2 ∨ c = s1.heap.objs.size + 3 ∨ c = s1.heap.objs.size ∨ c = s1.heap.objs.size + 1 := by simpa using hcm
          have hle : s1.heap.objs.size ≤ c := by
            rcases e' with z | z | z | z | z
            · rw [z]; exact Nat.le_add_right _ _
            · rw [z]; exact Nat.le_add_right _ _
            · rw [z]; exact Nat.le_add_right _ _
            · rw [z]; exact Nat.le_refl _
            · rw [z]; exact Nat.le_add_right _ _
          exact I1.fpOk hle (I1.hok.fresh hle)
    · exact q.elim
  · exact q.elim
end
end Dl
namespace Dl
open PySem PySem.Spec PyProof.Rows L2
variable [TheW]
def wBelow (k : Nat) : W → Prop
  | .loc n => n < k
  | _ => True
structure cutP (m : Nat) (Q : W → List O → Prop) (w : W) (μ : List O) : Prop where
  ex : ∃ k, m ≤ k ∧ wBelow k w ∧ Q w (μ.take k)
structure cutX (m : Nat) (E : Ex → List O → Prop) (x : Ex) (μ : List O) : Prop where
  ex : ∃ k, m ≤ k ∧ E x (μ.take k)
def cutS (c : DSp) : DSp := fun ws μ Q' E' => ∃ Q E, c ws μ Q E ∧ Q' = cutP μ.length Q ∧ E' = cutX μ.length E
section
variable {K : PySem.W.Frag} {F F0 : Hp} {ρ ρ0 : List Addr} {H H0 : Hp} {μ : List O}
theorem take_get {α : Type} {l : List α} {k i : Nat} {a : α} (h : (l.take k)[i]? = some a) : l[i]? = some a := by
  rw [List.getElem?_take] at h
  split at h
  · exact h
  · cases h
theorem StOk.take (s : StOk K F ρ μ H) (k : Nat) : StOk K F (ρ.take k) (μ.take k) H :=
  ⟨s.sub, by rw [List.length_take, List.length_take, s.len], (List.take_sublist k ρ).nodup s.nd, fun a h => s.dom a (List.mem_of_mem_take h), fun i a o e1 e2 => s.obj i a o (take_get e1) (take_get e2), s.tabs, fun a h => s.notab a (List.mem_of_mem_take h)⟩
theorem Post.take (p : Post F0 ρ0 H0 F ρ H) {k : Nat} (h : ρ0.length ≤ k) : Post F0 ρ0 H0 F (ρ.take k) H := by
  refine ⟨p.le, ?_, p.new, p.keepT, fun b hb => p.fresh b (List.mem_of_mem_take hb)⟩
  obtain ⟨t, rfl⟩ := p.pre
  exact ⟨t.take (k - ρ0.length), by rw [List.take_append, List.take_of_length_le h]⟩
theorem RepW.take {w : W} {v : V} {k : Nat} (b : wBelow k w) (h : RepW K F ρ w v) : RepW K F (ρ.take k) w v := by
  cases w with
  | d x => exact h
  | scr xs => exact h
  | loc n =>
    obtain ⟨a, e, q⟩ := h
    exact ⟨a, by rw [List.getElem?_take, if_pos (show n < k from b)]; exact e, q⟩
end
section
variable {X : Cx} {n : En} {e o a b : Expr} {es : List Expr} {pos pp apos : Pos} {we wa' wb : DE} {wa : DA} {name : Str} {id : String} {r : V → List V → Hp → VK → Prop} {op : List D → List D → (List D → D → Prop) → Prop}
def oIntS : DCall := fun xs Q => match xs with
  | [.int i] => Q (.int i)
  | [.bl b] => Q (.int (if b then 1 else 0))
  | [.str x] => ∃ i, PySem.intText? (mkS x) = some i ∧ x.length ≤ 640 ∧ Q (.int i)
  | _ => False
theorem calls_intS {K : PySem.W.Frag} : CallS K (fun xs H Q => ((∃ i, xs = [.int i] ∧ Q (.int i) H) ∨ ∃ k, xs = [.bl k] ∧ Q (.int (if k then 1 else 0)) H) ∨ ∃ a n, xs = [.str a] ∧ PySem.intText? a = some n ∧ a.length ≤ 640 ∧ Q (.int n) H) oIntS := by
  intro F H xs vs Q k s r h c
  unfold oIntS at h
  split at h
  · obtain ⟨v, rfl, rv⟩ := repL1 r
    obtain rfl := rv
    exact .inl (.inl ⟨_, rfl, c _ H (.int _) F (.refl _ _) rfl h⟩)
  · obtain ⟨v, rfl, rv⟩ := repL1 r
    obtain rfl := rv
    exact .inl (.inr ⟨_, rfl, c _ H (.int _) F (.refl _ _) rfl h⟩)
  · obtain ⟨v, rfl, rv⟩ := repL1 r
    obtain rfl := rv
    obtain ⟨i, h1, h2, h3⟩ := h
    exact .inr ⟨_, i, rfl, h1, by rw [mkS_len]; exact h2, c _ H (.int _) F (.refl _ _) rfl h3⟩
  · exact h.elim
theorem pd_intS (hg : Gl X "int") (hm : X.mg "int" = none) (ha : PAD X n (e :: es) wa) (he : starEach (e :: es) X.env = (false, eval e X.env) :: starEach es X.env := by rfl) (hpl : (backTo pos (starEach es X.env)).any (·.1) = false := by rfl) :
    PD X n (.Call (.Name "int" pp) (e :: es) [] pos) (wCall oIntS wa) := pd_callTy (callR_or call_int1 call_int_str) calls_intS hg hm (by decide +kernel) ha (by decide) (by decide) he hpl
end
end Dl
namespace Dl
open PySem PySem.Spec PyProof.Rows L2
variable [TheW]
theorem flat_rep (l : List Nat) : ∀ k : Nat, (List.replicate k l.toArray).foldl (· ++ ·) #[] = (List.replicate k l).flatten.toArray := by
  have go : ∀ (k : Nat) (acc : List Nat), (List.replicate k l.toArray).foldl (· ++ ·) acc.toArray = (acc ++ (List.replicate k l).flatten).toArray := fun k => by
    induction k with
    | zero => intro acc; simp
    | succ k ih =>
      intro acc
      rw [List.replicate_succ, List.foldl_cons, List.replicate_succ, List.flatten_cons]
      have e : acc.toArray ++ l.toArray = (acc ++ l).toArray := by simp
      rw [e, ih, List.append_assoc]
  intro k
  have := go k []
  simpa using this
theorem len_rep (a : List Nat) : ∀ k : Nat, (List.replicate k a).flatten.length = k * a.length
  | 0 => by simp
  | k + 1 => by rw [List.replicate_succ, List.flatten_cons, List.length_append, len_rep a k, Nat.succ_mul, Nat.add_comm]
theorem op_mulS {X : Cx} : OpR X (binaryOp .Mult) (fun x y H Q => ∃ (a : List Nat) (k : Int), x = .str (mkS a) ∧ y = .int k ∧ 0 ≤ k ∧ k < 2 ^ 62 ∧ a.length * k.toNat ≤ 16777216 ∧ Q (.str (mkS (List.replicate k.toNat a).flatten)) H) := by
  intro pins s σ H x y v u Q I rx ry h
  obtain ⟨a, k, rfl, rfl, h0, h1, h2, q⟩ := h
  obtain ⟨t, rfl⟩ := rx
  obtain ⟨t', rfl⟩ := ry
  have ha : (mkS a).length = a.length := mkS_len a
  refine PySem.P.mul_str ?_ (fun g1 g2 => ?_) (fun g1 g2 => ?_) ?_
  · rw [decide_eq_false (by omega), decide_eq_false (by omega)]; rfl
  · rw [ha]
    have : a.length ≠ 0 := fun z => by rw [ha, z] at g2; simp at g2
    intro z
    have g3 : (a.length : Int) * k ≤ 16777216 := by
      have : ((a.length * k.toNat : Nat) : Int) = (a.length : Int) * k := by rw [Int.natCast_mul, Int.toNat_of_nonneg h0]
      omega
    have : (a.length : Int) ≤ (2 ^ 63 - 1) / k := (Int.le_ediv_iff_mul_le (by omega)).mpr (by omega)
    omega
  · rw [ha]
    have : ¬ a.length * k.toNat > sizeLine := by rw [sizeLine_eq]; omega
    unfold Builtin.Str.tooLong
    exact decide_eq_false this
  · by_cases hk : k < 1
    · rw [if_pos hk]
      have e : k = 0 := by omega
      subst e
      refine ⟨by decide, ⟨.str (mkS []), H, I.tok _, ⟨_, rfl⟩, ?_⟩⟩
      simpa using q
    · rw [if_neg hk]
      by_cases hc : (k == 1 || (mkS a).length == 0) = true
      · rw [if_pos hc]
        have e : (List.replicate k.toNat a).flatten = a := by
          rcases Bool.or_eq_true_iff.mp hc with z | z
          · have : k = 1 := by simpa using z
            subst this; simp
          · have : a = [] := by
              rw [ha] at z
              exact List.length_eq_zero_iff.mp (by simpa using z)
            subst this; simp
        rw [e] at q
        exact ⟨.str (mkS a), H, I, ⟨t, rfl⟩, q⟩
      · rw [if_neg hc]
        have e : (⟨(List.replicate k.toNat (mkS a).cps).foldl (· ++ ·) #[]⟩ : Str) = mkS (List.replicate k.toNat a).flatten := by
          show (⟨(List.replicate k.toNat a.toArray).foldl (· ++ ·) #[]⟩ : Str) = _
          rw [flat_rep]
        rw [e]
        refine ⟨?_, ⟨.str _, H, I.tok _, ⟨_, rfl⟩, q⟩⟩
        rw [mkS_len, sizeLine_eq]
        rw [len_rep]
        rw [Nat.mul_comm]; exact h2
def oMulA : DOp := fun x y Q => match x, y with
  | .int i, .int j => (CMul i j ∨ CMulW i j) ∧ Q (.int (i * j))
  | .str a, .int k => 0 ≤ k ∧ k < 2 ^ 62 ∧ a.length * k.toNat ≤ 16777216 ∧ Q (.str (List.replicate k.toNat a).flatten)
  | .lst a, .int k => 0 ≤ k ∧ k < 2 ^ 62 ∧ a.length * k.toNat ≤ 16777216 ∧ Q (.lst (List.replicate k.toNat a).flatten)
  | _, _ => False
theorem RepL.rep {K : PySem.W.Frag} {F : Hp} {ds : List D} {vs : List V} (h : RepL K F ds vs) : ∀ k : Nat, RepL K F (List.replicate k ds).flatten (List.replicate k vs).flatten
  | 0 => by simp; exact RepL.nil
  | k + 1 => by rw [List.replicate_succ, List.replicate_succ, List.flatten_cons, List.flatten_cons]; exact h.app (RepL.rep h k)
theorem ops_mulS {K : PySem.W.Frag} : OpS K (fun x y H Q => ∃ (a : List Nat) (k : Int), x = .str (mkS a) ∧ y = .int k ∧ 0 ≤ k ∧ k < 2 ^ 62 ∧ a.length * k.toNat ≤ 16777216 ∧ Q (.str (mkS (List.replicate k.toNat a).flatten)) H)
    (fun x y Q => ∃ a k, x = .str a ∧ y = .int k ∧ 0 ≤ k ∧ k < 2 ^ 62 ∧ a.length * k.toNat ≤ 16777216 ∧ Q (.str (List.replicate k.toNat a).flatten)) := by
  rintro F H x y v u Q k s r1 r2 ⟨a, n, rfl, rfl, h0, h1, h2, q⟩ c
  obtain rfl := r1
  obtain rfl := r2
  exact ⟨a, n, rfl, rfl, h0, h1, h2, c _ H (.str _) F (.refl _ _) rfl q⟩
theorem ops_mulL {K : PySem.W.Frag} : OpS K rRep (fun x y Q => ∃ a k, x = .lst a ∧ y = .int k ∧ 0 ≤ k ∧ k < 2 ^ 62 ∧ a.length * k.toNat ≤ 16777216 ∧ Q (.lst (List.replicate k.toNat a).flatten)) := by
  rintro F H x y v u Q k s r1 r2 ⟨a, n, rfl, rfl, h0, h1, h2, q⟩ c
  unfold Rep at r1
  obtain ⟨p, vs, rfl, e, rl⟩ := r1
  obtain rfl := r2
  refine ⟨p, n, vs, rfl, rfl, s _ _ e, by omega, by omega, by rw [← rl.len, sizeLine_eq]; exact h2, fun z hz => ?_⟩
  have rr := rl.rep n.toNat
  have hf : F z = none := by
    cases q : F z with
    | none => rfl
    | some w => rw [s _ _ q] at hz; cases hz
  refine c _ _ (.lst _) _ (.one hz) ?_ q
  unfold Rep
  exact ⟨z, _, rfl, upd_same, RepL.sub (fun b o e => by rw [upd_ne (ne_of_none e hf)]; exact e) _ _ rr⟩
section
variable {X : Cx} {n : En} {e o a b : Expr} {es : List Expr} {pos pp apos : Pos} {we wb : DE} {wa : DE}
theorem pd_mulA (ha : PD X n a wa) (hb : PD X n b wb) : PD X n (.BinOp a .Mult b pos) (wOp oMulA wa wb) :=
  pd_op ((op_mul.or op_mulW).or (op_mulS.or op_rep)) ((((ops_I (g' := fun i j => .int (i * j)) fun _ _ _ => rfl).or (ops_I (g' := fun i j => .int (i * j)) fun _ _ _ => rfl)).or (ops_mulS.or ops_mulL)).imp fun x y Q h => by
    unfold oMulA at h
    split at h
    · exact .inl (h.1.elim (fun z => .inl ⟨z, h.2⟩) (fun z => .inr ⟨z, h.2⟩))
    · exact .inr (.inl ⟨_, _, rfl, rfl, h⟩)
    · exact .inr (.inr ⟨_, _, rfl, rfl, h⟩)
    · exact h.elim) ha hb
theorem RepL.reverse {K : PySem.W.Frag} {F : Hp} : ∀ {ds : List D} {vs : List V}, RepL K F ds vs → RepL K F ds.reverse vs.reverse
  | [], _, h => by unfold RepL at h; subst h; exact RepL.nil
  | d :: ds, _, h => by
    unfold RepL at h
    obtain ⟨v, r, rfl, q, t⟩ := h
    rw [List.reverse_cons, List.reverse_cons]
    exact (RepL.reverse t).app (RepL.one q)
end
end Dl
namespace Dl
open PySem PySem.Spec PyProof.Rows L2
variable [TheW]
abbrev Rd (sp : DSp) (n : Nat) (wb : DS) : Prop := ∀ (ws : List W) (μ : List O) (Q : W → List O → Prop) (E : Ex → List O → Prop), sp ws μ Q E → wb { nx := fun st => Q (.d .non) st.μ, rt := Q, ex := fun x st => E x st.μ } ⟨startD n ws, μ⟩
def kOk : D → Bool
  | .non => true
  | .bl _ => true
  | .int _ => true
  | .str _ => true
  | .tup _ => true
  | .lst _ => true
  | _ => false
def isS : D → Bool | .str _ => true | _ => false
section
variable {tbl : List ((Ty × Ty) × Bool)} {v : D} {Q : D → Prop}
theorem isiS (h : kOk v = true) (q : Q (.bl (isS v))) : oIsi (ansW tbl) [v, .ty "str"] Q := by
  cases v <;> first | (cases h; done) | exact isi1 _ _ true rfl (by decide +kernel) q | exact isi1 _ _ false rfl (by decide +kernel) q
end
def okB (x : D) : Bool := match pyD x with
  | some p => SeqAt.shaped p
  | none => false
def eqD (x y : D) : Bool := match pyD x, pyD y with
  | some p, some q => PyData.eqv p q
  | _, _ => false
theorem eqP {x y : D} {Q : D → Prop} (hx : okB x = true) (hy : okB y = true) (h : Q (.bl (eqD x y))) : oEq x y Q := by
  unfold okB at hx hy
  unfold eqD at h
  cases ex : pyD x with
  | none => rw [ex] at hx; cases hx
  | some p =>
    cases ey : pyD y with
    | none => rw [ey] at hy; cases hy
    | some q =>
      rw [ex] at hx; rw [ey] at hy; rw [ex, ey] at h
      exact ⟨p, q, ex, ey, hx, hy, h⟩
theorem neP {x y : D} {Q : D → Prop} (hx : okB x = true) (hy : okB y = true) (h : Q (.bl (!eqD x y))) : oNe x y Q := by
  unfold okB at hx hy
  unfold eqD at h
  cases ex : pyD x with
  | none => rw [ex] at hx; cases hx
  | some p =>
    cases ey : pyD y with
    | none => rw [ey] at hy; cases hy
    | some q =>
      rw [ex] at hx; rw [ey] at hy; rw [ex, ey] at h
      exact ⟨p, q, ex, ey, hx, hy, h⟩
def codesOk (x : List Nat) : Bool := x.all fun c => decide (c < 1114112)
theorem okB_str {x : List Nat} (hx : codesOk x = true) : okB (.str x) = true := by
  show SeqAt.shaped (.str (mkS x)) = true
  unfold SeqAt.shaped PyData.canLay0
  rw [Bool.and_eq_true]
  exact ⟨by unfold PyData.strOk; simpa [mkS, codesOk] using hx, by unfold PyData.depth; decide⟩
theorem mkS_inj {x y : List Nat} : mkS x = mkS y ↔ x = y := by
  constructor
  · intro h
    have : (mkS x).cps.toList = (mkS y).cps.toList := by rw [h]
    simpa [mkS] using this
  · intro h; rw [h]
theorem eqD_str (x y : List Nat) : eqD (.str x) (.str y) = decide (x = y) := by
  show PyData.eqv (.str (mkS x)) (.str (mkS y)) = _
  unfold PyData.eqv
  by_cases h : x = y
  · subst h; simp
  · rw [decide_eq_false h]
    simp only [beq_eq_false_iff_ne, ne_eq]
    exact fun z => h (mkS_inj.mp z)
theorem eqT {x y : List Nat} {Q : D → Prop} (hx : codesOk x = true) (hy : codesOk y = true) (h : Q (.bl (decide (x = y)))) : oEq (.str x) (.str y) Q :=
  eqP (okB_str hx) (okB_str hy) (by rw [eqD_str]; exact h)
theorem neT {x y : List Nat} {Q : D → Prop} (hx : codesOk x = true) (hy : codesOk y = true) (h : Q (.bl (!decide (x = y)))) : oNe (.str x) (.str y) Q :=
  neP (okB_str hx) (okB_str hy) (by rw [eqD_str]; exact h)
theorem codes_sub {x y : List Nat} (h : ∀ c ∈ x, c ∈ y) (hy : codesOk y = true) : codesOk x = true :=
  List.all_eq_true.mpr fun c hc => List.all_eq_true.mp hy c (h c hc)
def lcStep (g : DG) (tt : DT) (te : DE) (δ : List (Option W)) (x : D) (μ : List O) (K : D → List O → Prop) (K2 : List O → Prop) : Prop :=
  g (.d x) ⟨δ, μ⟩ (fun st2 => tt st2 (fun b st3 => brD b (te st3 (fun y st4 => match y with
      | .d d => K d st4.μ
      | _ => False) (fun _ _ => False)) (K2 st3.μ)) (fun _ _ => False)) (fun _ _ => False)
theorem joinD_nil : ∀ zs : List (List Nat), joinD [] zs = zs.flatten
  | [] => rfl
  | [p] => by simp [joinD]
  | p :: q :: r => by
    show p ++ ([] ++ joinD [] (q :: r)) = _
    rw [joinD_nil (q :: r)]
    simp
theorem strsD_map (f : α → List Nat) : ∀ xs : List α, strsD (xs.map fun x => .str (f x)) = some (xs.map f)
  | [] => rfl
  | x :: xs => by
    show (match strsD (xs.map fun x => .str (f x)) with
      | some r => some (f x :: r)
      | none => none) = _
    rw [strsD_map f xs]
    rfl
theorem bools_map (f : α → Bool) : ∀ xs : List α, bools (xs.map fun x => .bl (f x)) = some (xs.map f)
  | [] => rfl
  | x :: xs => by
    show (match bools (xs.map fun x => .bl (f x)) with
      | some r => some (f x :: r)
      | none => none) = _
    rw [bools_map f xs]
    rfl
theorem intD {c : Nat} (h : 48 ≤ c ∧ c ≤ 57) : PySem.intText? (mkS [c]) = some ((c : Int) - 48) := by
  obtain ⟨h1, h2⟩ := h
  have e : c = 48 ∨ c = 49 ∨ c = 50 ∨ c = 51 ∨ c = 52 ∨ c = 53 ∨ c = 54 ∨ c = 55 ∨ c = 56 ∨ c = 57 := by omega
  rcases e with e | e | e | e | e | e | e | e | e | e <;> subst e <;> decide +kernel
theorem set_same {μ : List O} {j : Nat} {b : O} (hb : μ[j]? = some b) : μ.set j b = μ := List.ext_getElem? fun i => by
  by_cases z : j = i
  · subst z
    rw [List.getElem?_set_self (List.getElem?_eq_some_iff.mp hb).1, hb]
  · rw [List.getElem?_set_ne z]
section
variable {g : DG} {tt : DT} {te : DE} {δ : List (Option W)} {Q : List D → List O → Prop} {α : Type}
theorem lc_mapA (L : List α) (h : α → D) (f : α → D) (μ : List O) (hs : ∀ a ∈ L, ∀ (K : D → List O → Prop) (K2 : List O → Prop), K (f a) μ → lcStep g tt te δ (h a) μ K K2) (hl : L.length ≤ 16777216) (hq : Q (L.map f) μ) : lcP g tt te δ Q (L.map h) [] μ := by
  refine ⟨?_⟩
  have go : ∀ (L : List α) (acc : List D), (∀ a ∈ L, ∀ (K : D → List O → Prop) (K2 : List O → Prop), K (f a) μ → lcStep g tt te δ (h a) μ K K2) → acc.length + L.length ≤ 16777216 → Q (acc ++ L.map f) μ → wLcL g tt te δ Q (L.map h) acc μ := by
    intro L
    induction L with
    | nil =>
      intro acc _ _ hq
      have : Q acc μ := by simpa using hq
      exact this
    | cons a L ih =>
      intro acc hs hl hq
      have hl' : acc.length + L.length + 1 ≤ 16777216 := by simp only [List.length_cons] at hl; omega
      refine hs a (by simp) (fun d μ' => acc.length < 16777216 ∧ wLcL g tt te δ Q (L.map h) (acc ++ [d]) μ') (fun μ' => wLcL g tt te δ Q (L.map h) acc μ') ⟨by omega, ?_⟩
      exact ih _ (fun b hb => hs b (List.mem_cons_of_mem _ hb)) (by simp only [List.length_append, List.length_singleton]; omega) (by simpa using hq)
  exact go L [] hs (by simpa using hl) (by simpa using hq)
theorem lc_filterA (L : List α) (h : α → D) (p : α → Bool) (f : α → D) (μ : List O) (hs : ∀ a ∈ L, ∀ (K : D → List O → Prop) (K2 : List O → Prop), (p a = true → K (f a) μ) → (p a = false → K2 μ) → lcStep g tt te δ (h a) μ K K2) (hl : L.length ≤ 16777216) (hq : Q ((L.filter p).map f) μ) : lcP g tt te δ Q (L.map h) [] μ := by
  refine ⟨?_⟩
  have go : ∀ (L : List α) (acc : List D), (∀ a ∈ L, ∀ (K : D → List O → Prop) (K2 : List O → Prop), (p a = true → K (f a) μ) → (p a = false → K2 μ) → lcStep g tt te δ (h a) μ K K2) → acc.length + L.length ≤ 16777216 → Q (acc ++ (L.filter p).map f) μ → wLcL g tt te δ Q (L.map h) acc μ := by
    intro L
    induction L with
    | nil =>
      intro acc _ _ hq
      have : Q acc μ := by simpa using hq
      exact this
    | cons a L ih =>
      intro acc hs hl hq
      have hl' : acc.length + L.length + 1 ≤ 16777216 := by simp only [List.length_cons] at hl; omega
      refine hs a (by simp) (fun d μ' => acc.length < 16777216 ∧ wLcL g tt te δ Q (L.map h) (acc ++ [d]) μ') (fun μ' => wLcL g tt te δ Q (L.map h) acc μ') (fun hp => ⟨by omega, ?_⟩) fun hp => ?_
      · refine ih _ (fun b hb => hs b (List.mem_cons_of_mem _ hb)) (by simp only [List.length_append, List.length_singleton]; omega) ?_
        rw [List.filter_cons, if_pos hp] at hq
        simpa using hq
      · refine ih _ (fun b hb => hs b (List.mem_cons_of_mem _ hb)) (by omega) ?_
        rw [List.filter_cons, if_neg (by simp [hp])] at hq
        exact hq
  exact go L [] hs (by simpa using hl) (by simpa using hq)
end
theorem zipD_map {α β : Type} (f : α → D) (g : β → D) (xs : List α) (ys : List β) : zipD (xs.map f) (ys.map g) = (xs.zip ys).map fun p => .tup [f p.1, g p.2] := by
  unfold zipD
  rw [List.zipWith_map, List.zip_eq_zipWith, List.map_zipWith]
theorem met_d {c m : Str} {ks : List Str} {vs : List D} {μ : List O} {A : Prop} (h : lookD m ks vs = none) (a : A) : metP c m (.d (.ins c ks vs)) μ A := ⟨.inl ⟨_, _, rfl, h⟩, a⟩
theorem fld_d {c f : Str} {ks : List Str} {vs : List D} {μ : List O} {Q : D → Prop} {d : D} (h : lookD f ks vs = some d) (q : Q d) : fldP c f (.d (.ins c ks vs)) μ Q := ⟨.inl ⟨_, _, d, rfl, h, q⟩⟩
theorem prp_d {c : Str} {sp : DSp} {ks : List Str} {vs : List D} {st : Dst} {Q : DQ} (h : wFn sp [.d (.ins c ks vs)] st Q (fun _ _ => False)) : prpP c sp (.d (.ins c ks vs)) st Q := ⟨.inl ⟨_, _, rfl⟩, h⟩
section
variable {g : DG} {tt : DT} {te : DE} {δ : List (Option W)} {Q : List D → List O → Prop}
theorem lc_zipA {α β : Type} (L1 : List α) (L2 : List β) (f1 : α → D) (f2 : β → D) (f : α × β → D) (μ : List O) (hs : ∀ p ∈ L1.zip L2, ∀ (K : D → List O → Prop) (K2 : List O → Prop), K (f p) μ → lcStep g tt te δ (.tup [f1 p.1, f2 p.2]) μ K K2) (hl : (L1.zip L2).length ≤ 16777216) (hq : Q ((L1.zip L2).map f) μ) :
    lcP g tt te δ Q (zipD (L1.map f1) (L2.map f2)) [] μ := by
  rw [zipD_map]
  exact lc_mapA _ _ f μ hs hl hq
end
theorem sIx_nat (n d : Nat) (k : Nat) : HT.sIx n d (some (k : Int)) = min k n := by
  unfold HT.sIx
  simp only
  rw [if_neg (by omega)]
  omega
theorem cutD_to {α : Type} (xs : List α) (k : Nat) : cutD xs none (some (k : Int)) = xs.take k := by
  unfold cutD
  rw [sIx_nat]
  have e : HT.sIx xs.length 0 none = 0 := rfl
  rw [e, List.drop_zero, Nat.sub_zero]
  rcases Nat.le_total k xs.length with h | h
  · rw [Nat.min_eq_left h]
  · rw [Nat.min_eq_right h, List.take_of_length_le (Nat.le_refl _), List.take_of_length_le h]
theorem cutD_from {α : Type} (xs : List α) (k : Nat) : cutD xs (some (k : Int)) none = xs.drop k := by
  unfold cutD
  rw [sIx_nat]
  have e : HT.sIx xs.length xs.length none = xs.length := rfl
  rw [e]
  rcases Nat.le_total k xs.length with h | h
  · rw [Nat.min_eq_left h, List.take_of_length_le (by rw [List.length_drop]; exact Nat.le_refl _)]
  · rw [Nat.min_eq_right h, List.drop_of_length_le (Nat.le_refl _), List.drop_of_length_le h]
    simp
theorem atI_of {α : Type} {xs : List α} {k : Nat} {x : α} (h : xs[k]? = some x) : atI xs (k : Int) = some x := by
  obtain ⟨h1, h2⟩ := List.getElem?_eq_some_iff.mp h
  rw [ix_nat h1, h2]
section
variable {g : DG} {tt : DT} {te : DE} {δ : List (Option W)} {Q : List D → List O → Prop}
theorem lc_bagA {α β : Type} (j : Nat) (L : List α) (h : α → D) (f : β → D) (r : α → β → Prop) {μ : List O} (b : O) (hb : μ[j]? = some b) (ok : BagOk b)
    (hs : ∀ a ∈ L, ∀ (μ' : List O) (b : O), μ'[j]? = some b → BagOk b → ∀ (K : D → List O → Prop) (K2 : List O → Prop), (∀ y b', r a y → BagOk b' → K (f y) (μ'.set j b')) → lcStep g tt te δ (h a) μ' K K2)
    (hl : L.length ≤ 16777216) (hq : ∀ (ys : List β) b', ys.length = L.length → (∀ p ∈ L.zip ys, r p.1 p.2) → BagOk b' → Q (ys.map f) (μ.set j b')) : lcP g tt te δ Q (L.map h) [] μ := by
  refine ⟨?_⟩
  have go : ∀ (L : List α) (acc : List D) (μ : List O) (b : O), μ[j]? = some b → BagOk b →
      (∀ a ∈ L, ∀ (μ' : List O) (b : O), μ'[j]? = some b → BagOk b → ∀ (K : D → List O → Prop) (K2 : List O → Prop), (∀ y b', r a y → BagOk b' → K (f y) (μ'.set j b')) → lcStep g tt te δ (h a) μ' K K2) →
      acc.length + L.length ≤ 16777216 → (∀ (ys : List β) b', ys.length = L.length → (∀ p ∈ L.zip ys, r p.1 p.2) → BagOk b' → Q (acc ++ ys.map f) (μ.set j b')) → wLcL g tt te δ Q (L.map h) acc μ := by
    intro L
    induction L with
    | nil =>
      intro acc μ b hb ok _ _ hq
      have := hq [] b rfl (fun p hp => by cases hp) ok
      rw [set_same hb] at this
      have : Q acc μ := by simpa using this
      exact this
    | cons a L ih =>
      intro acc μ b hb ok hs hl hq
      have hl' : acc.length + L.length + 1 ≤ 16777216 := by simp only [List.length_cons] at hl; omega
      have hj := (List.getElem?_eq_some_iff.mp hb).1
      refine hs a (by simp) μ b hb ok (fun d μ' => acc.length < 16777216 ∧ wLcL g tt te δ Q (L.map h) (acc ++ [d]) μ') (fun μ' => wLcL g tt te δ Q (L.map h) acc μ') fun y b' hr ok' => ⟨by omega, ?_⟩
      refine ih _ (μ.set j b') b' (List.getElem?_set_self hj) ok' (fun b hb => hs b (List.mem_cons_of_mem _ hb)) (by simp only [List.length_append, List.length_singleton]; omega) fun ys b2 hlen hall ok2 => ?_
      have := hq (y :: ys) b2 (by simp [hlen]) (fun p hp => by
        rcases List.mem_cons.mp (show p ∈ (a, y) :: L.zip ys from hp) with z | z
        · rw [z]; exact hr
        · exact hall p z) ok2
      rw [List.set_set]
      simpa using this
  exact go L [] μ b hb ok hs (by simpa using hl) (by simpa using hq)
end
theorem flat_single (ys : List Nat) : (ys.map fun c => [c]).flatten = ys := by
  induction ys with
  | nil => rfl
  | cons y ys ih => simp [ih]
theorem join_signs {ys : List Nat} {Q : D → Prop} (hl : ys.length ≤ 100000) (h : Q (.str ys)) : oJoin (.str []) [.lst (ys.map fun c => .str [c])] Q := by
  refine ⟨ys.map fun c => [c], strsD_map (fun c => [c]) ys, ?_, ?_⟩
  · have : (List.map (fun x => x.length) (ys.map fun c => [c])).sum = ys.length := by
      rw [List.map_map]
      clear h hl
      induction ys with
      | nil => rfl
      | cons y ys ih => simp [ih]; omega
    simp only [List.length_nil, Nat.mul_zero, Nat.add_zero]
    rw [this]; omega
  · rw [joinD_nil, flat_single]; exact h
end Dl
namespace Dl
open PySem PySem.Spec PyProof.Rows L2
variable [TheW]
def SpSt (K : PySem.W.Frag) (m : Nat) (c : DSp) : Sp := fun vs H Q E => ∃ ws rest, vs = ws ++ rest ∧ ws.length = m ∧ rest.length ≤ sizeLine ∧ ∀ p, H p = none → SpD K (m + 1) c (ws ++ [V.ref p]) (upd H p (.tup rest)) Q E
structure StD (P : Program) (w : World) (K : PySem.W.Frag) (mg : Str → Option Value) (base : Heap) (c m : Str) (k j : Nat) (sp : DSp) : Prop where
  ex : ∃ f, FnR P w K mg base (L2.CX P w) k f (SpSt K j sp) ∧ Cls K (He.ga K c) ∧ BMeth K (He.ga K c) m f
structure stP (sp : DSp) (j : Nat) (ws : List W) (st : Dst) (Q : DQ) (E : DX) : Prop where
  ex : ∃ fs ds, ws = fs ++ ds.map W.d ∧ fs.length = j ∧ ds.length ≤ 16777216 ∧ wFn sp (fs ++ [.d (.tup ds)]) st Q E
theorem RepWL.split {K : PySem.W.Frag} {F : Hp} {ρ : List Addr} : ∀ {ws us : List W} {vs : List V}, RepWL K F ρ (ws ++ us) vs → ∃ v1 v2, vs = v1 ++ v2 ∧ RepWL K F ρ ws v1 ∧ RepWL K F ρ us v2
  | [], us, vs, h => ⟨[], vs, rfl, rfl, h⟩
  | w :: ws, us, _, ⟨v, r, e, q, t⟩ => by
    subst e
    obtain ⟨v1, v2, rfl, h1, h2⟩ := RepWL.split (ws := ws) t
    exact ⟨v :: v1, v2, rfl, ⟨v, v1, rfl, q, h1⟩, h2⟩
section
variable {X : Cx} {n : En} {e o : Expr} {es : List Expr} {pos p p2 apos : Pos}
theorem run_fnRS {CX : CXT} {k : Nat} {f : Addr} {sp : Sp} {E : L2.St → XK} {Q : VK} {us : List Value} {vs : List V} {pins : List (Addr × Obj)} {σ : L2.St} {H : Hp} {s : Shared} (F : FnR X.prog X.w X.K X.mg X.base CX k f sp) (hr : Room k X.A) (hx : PassesAt CX X σ (E σ)) (I : Inv X pins σ H s) (r : Vals vs us) (h : sp vs H Q (E σ)) :
    codeAny (model X.prog X.w) X.A (.call (.ref f) ⟨us, []⟩) (fun r s' => match r with | .ok (.ret v) => EP X pins σ Q v s' | .ok _ => False | .error e => X.xe e s') s := by
  refine codeAny_mono (F X.A X.stack s H us vs Q (E σ) hr I.env0 r h) fun r s' hq => ?_
  cases r with
  | error e => exact hx pins H s e s' I hq
  | ok fl =>
    cases fl with
    | ret u => exact I.after hq
    | next => exact False.elim hq
    | brk => exact False.elim hq
    | cont => exact False.elim hq
theorem st_sp {sp : DSp} {j : Nat} {σ : L2.St} {H F : Hp} {ρ : List Addr} {st : Dst} {vs : List V} {ws : List W} {Q : DQ} {E : DX} (R : Rl X.K n F ρ st σ H) (r : RepWL X.K F ρ ws vs) (h : stP sp j ws st Q E) {EX : XK}
    (hE : ∀ cls d H', (∃ st' F' ρ' x, Rl X.K n F' ρ' st' σ H' ∧ ExRep X.K F' x cls d H' ∧ E x st') → EX cls d H') :
    SpSt X.K j sp vs H (fun v H' => ∃ w' st' F' ρ', Post F ρ H F' ρ' H' ∧ Rl X.K n F' ρ' st' σ H' ∧ RepW X.K F' ρ' w' v ∧ Q w' st') EX := by
  obtain ⟨fs, ds, rfl, hl, hz, hw⟩ := h.ex
  obtain ⟨v1, v2, rfl, r1, r2⟩ := r.split
  have rd := r2.ofD
  refine ⟨v1, v2, rfl, by rw [← r1.len]; exact hl, by rw [← rd.len, sizeLine_eq]; exact hz, fun p hp => ?_⟩
  obtain ⟨p2, R2⟩ := R.grow (.one (o := .tup v2) hp)
  have hf : F p = none := by
    cases q : F p with
    | none => rfl
    | some u => rw [R.ok.sub p u q] at hp; cases hp
  have rt : RepW X.K (upd F p (.tup v2)) ρ (.d (.tup ds)) (.ref p) := by
    show Rep _ _ _ _
    unfold Rep
    exact ⟨p, v2, rfl, .inl upd_same, RepL.sub (fun b o e => by rw [upd_ne (ne_of_none e hf)]; exact e) _ _ rd⟩
  obtain ⟨F0, ρ0, μ0, ws0, QD, ED, a1, a2, a3, a4, a5, a6⟩ := call_sp (m := j + 1) R2 ((r1.post p2).app (show RepWL X.K _ ρ [.d (.tup ds)] [.ref p] from ⟨_, _, rfl, rt, rfl⟩)) (by simp [hl]) hw (EX := EX) hE
  refine ⟨F0, ρ0, μ0, ws0, QD, ED, a1, a2, a3, a4, fun w μ' v F' ρ' H' q1 q2 q3 q4 => ?_, a6⟩
  obtain ⟨w', st', F'', ρ'', b1, b2, b3, b4⟩ := a5 w μ' v F' ρ' H' q1 q2 q3 q4
  exact ⟨w', st', F'', ρ'', p2.trans b1 R2.ok.dom, b2, b3, b4⟩
def wMethSt (c m : Str) (j : Nat) (sp : DSp) (wo : DE) (wa : DA) : DE := fun st Q E => wo st (fun o st1 => metP c m o st1.μ (wa st1 (fun ws st2 => stP sp j (o :: ws) st2 Q E) E)) E
theorem pd_methSt {pl : Sem Bool} {c m : Str} {k j : Nat} {sp : DSp} {wo : DE} {wa : DA} (D : StD X.prog X.w X.K X.mg X.base c m k j sp) (hr : Room k X.A) (ho : PD X n o wo) (ha : PAD X n (e :: es) wa)
    (hst : starEach (e :: es) X.env = (false, eval e X.env) :: starEach es X.env := by rfl) (hpl : (backTo pos (starEach es X.env)).any (·.1) = false := by rfl)
    (ht : eval (.Call (.Attribute o m apos) (e :: es) [] pos) X.env = (do
      let ov ← eval o X.env
      standAt apos.atName
      let (f, first) ← holding [ov] (getMethod ov m pl)
      callWith pos f first (backTo pos (starEach (e :: es) X.env)) (backToKw pos (keywordEach [] X.env))) := by rfl) :
    PD X n (.Call (.Attribute o m apos) (e :: es) [] pos) (wMethSt c m j sp wo wa) := by
  obtain ⟨f, Fn, hc, hm⟩ := D.ex
  refine ⟨fun pins s σ H F ρ st Q E I R tk hw => ?_⟩
  refine PySem.W.methodCall_KW (pl := pl) (thn (ho.run pins s σ H F ρ st _ E I R tk hw) fun u s1 ⟨v, o1, st1, H1, F1, ρ1, I1, rv, p1, R1, r1, h1⟩ => ?_) ht
  obtain ⟨a, dx, fs, rfl, ea, l⟩ := h1.at R1 r1
  obtain rfl : u = Value.ref a := rv
  refine getmeth_ok I1 ea hc hm.mt l ?_
  refine PySem.W.callWith_K (first := [.ref a]) (h₀ := X.base) I.ok.mod.kin hm.mt.kp (thn (ha.run pos pins s1 σ H1 F1 ρ1 st1 _ E I1 R1 tk h1.go) fun us s2 ⟨vs, ws, st2, H2, F2, ρ2, I2, r, p2, R2, rw, q⟩ => ⟨I2.kIn, ?_⟩) hst hpl
  refine thn (wpAny_call (run_fnRS (us := .ref a :: us) (vs := .ref a :: vs) Fn hr (passAt tk σ) I2 (.cons rfl r) (st_sp (ws := o1 :: ws) R2 ⟨_, _, rfl, r1.post p2, rw⟩ q fun cls d H' z => z))) fun u s3 ⟨v, H3, I3, r3, w', st', F', ρ', p3, R3, rw3, q3⟩ => ?_
  exact ⟨v, w', st', H3, F', ρ', I3, r3, (p1.trans p2 R1.ok.dom).trans p3 R2.ok.dom, R3, rw3, q3⟩
structure seqP (v : W) (st : Dst) (Q : List D → Dst → Prop) : Prop where
  ex : ∃ ds, (v = .d (.tup ds) ∨ v = .d (.lst ds)) ∧ Q ds st
def wMethSS (c m : Str) (j : Nat) (sp : DSp) (wo we : DE) : DE := fun st Q E => wo st (fun o st1 => metP c m o st1.μ (we st1 (fun v st2 => seqP v st2 fun ds st3 => stP sp j (o :: ds.map W.d) st3 Q E) E)) E
theorem pd_methSS {c m : Str} {k j : Nat} {sp : DSp} {wo we : DE} (D : StD X.prog X.w X.K X.mg X.base c m k j sp) (hr : Room k X.A) (ho : PD X n o wo) (ha : PD X n e we) (hbase : attributeBase o m X.env (eval o X.env) = eval o X.env := by rfl) :
    PD X n (.Call (.Attribute o m apos) [.Starred e p] [] pos) (wMethSS c m j sp wo we) := by
  obtain ⟨f, Fn, hc, hm⟩ := D.ex
  refine ⟨fun pins s σ H F ρ st Q E I R tk hw => ?_⟩
  refine starcall_of hbase (thn (ho.run pins s σ H F ρ st _ E I R tk hw) fun u s1 ⟨v, o1, st1, H1, F1, ρ1, I1, rv, p1, R1, r1, h1⟩ => ?_)
  obtain ⟨a, dx, fs, rfl, ea, l⟩ := h1.at R1 r1
  obtain rfl : u = Value.ref a := rv
  refine getbound_ok I1 ea hc hm l fun q1 s2 hq1 I2 => ?_
  obtain ⟨pq, Rq⟩ := R1.grow (.one (o := .met f a) hq1)
  refine PySem.W.ks_call (P := PySem.W.MethP X.K q1 f (.ref a)) rfl (PySem.W.keeps_M hm.fi) (PySem.W.ks_lone ?_)
  refine thn (ha.run pins s2 σ _ _ ρ1 st1 _ E I2 Rq tk h1.go) fun v s3 ⟨y, w2, st2, H2, F2, ρ2, I3, ry, p2, R2, r2, q2⟩ => ?_
  obtain ⟨ds, hv, q2⟩ := q2.ex
  have hmet : H2 q1 = some (.met f a) := R2.ok.sub _ _ (p2.le _ _ upd_same)
  obtain ⟨t, vs, ey, ht, rl⟩ : ∃ t vs, y = V.ref t ∧ (SqT X.K H2 t vs ∨ SqL X.K H2 t vs) ∧ RepL X.K F2 ds vs := by
    rcases hv with rfl | rfl
    · have r2 : Rep X.K F2 (.tup ds) y := r2
      unfold Rep at r2
      obtain ⟨t, vs, ey, h, rl⟩ := r2
      exact ⟨t, vs, ey, .inl (h.sq R2.ok.sub), rl⟩
    · have r2 : Rep X.K F2 (.lst ds) y := r2
      unfold Rep at r2
      obtain ⟨t, vs, ey, h, rl⟩ := r2
      exact ⟨t, vs, ey, .inr (.of (R2.ok.sub _ _ h)), rl⟩
  subst ey
  obtain rfl : v = Value.ref t := ry
  refine StX.star_any I3 ht fun us s4 I4 rv => ⟨met_P I4 hmet, ?_⟩
  refine wpAny_call (PySem.W.method_call (met_P I4 hmet).1 (codeAny_mono (run_fnRS (us := Value.ref a :: us) (vs := V.ref a :: vs) Fn hr (passAt tk σ) I4 (.cons rfl rv) (st_sp (ws := o1 :: ds.map W.d) R2 ⟨_, _, rfl, (r1.post pq).post p2, RepWL.toD rl⟩ q2 fun cls d H' z => z)) fun r s' hq => ?_))
  cases r with
  | error e => exact hq
  | ok fl =>
    cases fl with
    | ret u =>
      obtain ⟨v, H3, I3, r3, w', st', F', ρ', p3, R3, rw3, q3⟩ := hq
      exact ⟨v, w', st', H3, F', ρ', I3, r3, ((p1.trans pq R1.ok.dom).trans p2 Rq.ok.dom).trans p3 R2.ok.dom, R3, rw3, q3⟩
    | next => exact False.elim hq
    | brk => exact False.elim hq
    | cont => exact False.elim hq
end
section
variable {P : Program} {w : World} {K : PySem.W.Frag} {mg : Str → Option Value} {base : Heap} {c m qual : Str} {st : Stmt} {N : List Str} {k j : Nat} {sp : DSp} {wb : DS} {ps : List Str} {pv : Str}
structure BmF (K : PySem.W.Frag) (c m : Str) : Prop where
  gf : PySem.W.specialIn K (.ref (He.ma K (He.ga K c) m)) "__get__" = some (some (.builtin "function.__get__"))
  tk : PySem.W.takesIn K (.ref (He.ma K (He.ga K c) m)) = some false
  cp : PySem.W.copiedNames.contains m = false
  fi : PySem.W.fnIn K (He.ma K (He.ga K c) m) = true
theorem bmF_ok {K : PySem.W.Frag} {c m : Str} (h : bmFB K c m = true) : BmF K c m := by
  obtain ⟨h1, h2⟩ := He.ba (show (He.eqO _ _ && (_ && (_ && _))) = true from h)
  obtain ⟨h3, h4⟩ := He.ba h2
  obtain ⟨h5, h6⟩ := He.ba h4
  exact ⟨He.eqO_ok h1, of_decide_eq_true h3, by simpa using h5, h6⟩
theorem stD_of (D : DfM K c m qual st []) (S : FnScope N (ps ++ [pv]) (defScope st)) (hj : ps.length = j) (B : BmF K c m) (hb : BodyQ P w K mg base qual st N k wb) (hc : ReadD sp (j + 1) N wb)
    (bd : ∀ (kV doc pm : Value) (an : Option Addr) (cdv ct : Value) (us rest : List Value), us.length = ps.length → bindArgs (PySem.W.fnOf m qual (defArgs st) (defBody st) (defScope st) .none kV doc pm an cdv ct) ⟨us ++ rest, []⟩ = (newTuple rest >>= fun t => pure (ps.zip us ++ [(pv, t)]))) :
    StD P w K mg base c m (k + 1) j sp := by
  subst hj
  obtain ⟨fd, F⟩ := D.ex
  obtain ⟨oc, od, dV, kV, doc, pm, an, cdv, ct, osl, rfl, lk, hcd, hD, hK⟩ := F.ex
  rcases hD with ⟨_, rfl⟩ | ⟨e, _⟩
  case inr => exact (e rfl).elim
  refine ⟨He.ma K (He.ga K c) m, ?_, D.cl, ⟨D.mt, B.gf, B.tk, B.cp, B.fi⟩⟩
  refine StX.fn_star (sp := SpD K (ps.length + 1) sp) lk hcd S StX.cxUp (bd kV doc pm an cdv ct) fun A outer s H vs Q E hr h => ?_
  obtain ⟨F0, ρ, μ, ws, QD, ED, ok, r, hl, h, hq, he⟩ := h
  refine ⟨_, (hb _ cdv A outer s H E ⟨F0, ρ, H⟩ hr).pss, ?_⟩
  have tk : TkD (cxD P w K mg base N qual (defScope st) (He.ma K (He.ga K c) m) cdv A outer s H E) ⟨F0, ρ, H⟩ (fun x st => ED x st.μ) :=
    (takes_of (X := cxD P w K mg base N qual (defScope st) (He.ma K (He.ga K c) m) cdv A outer s H E) rfl rfl rfl rfl).imp fun cls d σ H' ⟨st', F', ρ', x, R, rx, z⟩ => he x st'.μ cls d F' ρ' H' z R.po R.ok rx
  refine tS.use (DD := { nx := fun st => QD (.d .non) st.μ, rt := QD, ex := fun x st => ED x st.μ }) (rl_start (N := N) ok r) tk (hc ws μ QD ED hl h) (fun σ' H' F' ρ' st' p R z => hq _ _ .non F' ρ' H' z p R.ok rfl) (fun v w' H' F' ρ' μ' p p0 ok' rw z => hq _ _ v F' ρ' H' z p ok' rw)
    (fun _ _ _ _ _ _ _ z => z.elim) (fun _ _ _ _ _ _ _ z => z.elim)
end
end Dl
namespace Dl
namespace Exi
open PySem PySem.Spec PySem.Calls PyProof.Rows PySem.W
structure Bs (B i newId : String) (bmB : List Value) : Prop where
  ex : ExcBaseFacts B newId i bmB
  kx : KxsFacts B i
  st : StoreFacts B bmB "object.__setattr__" "object"
theorem store_IndexError : StoreFacts "IndexError" [.type "IndexError", .type "LookupError", .type "Exception", .type "BaseException", .type "object"] "object.__setattr__" "object" where
  mro := by kernel_rfl
  slot := .of (owner := "object") (n := "__setattr__") (by rw [typeLookup_type, builtinLookup_eq_fast]; kernel_rfl) (by decide +kernel) (by decide +kernel) (by decide +kernel)
    (by first | exact .inl (by decide +kernel) | exact .inr (by decide +kernel)) (by rw [isSubtype_type]; kernel_rfl)
  entry := PySem.F.entry_object_sa
  kind := by decide +kernel
  split := by decide +kernel
  hasOwner := by decide +kernel
  args := fun a b c => by unfold argsOk; kernel_rfl
  passes := fun self => by kernel_rfl
theorem bs_ValueError : Bs "ValueError" "ValueError.__init__" "ValueError.__new__" [.type "ValueError", .type "Exception", .type "BaseException", .type "object"] := ⟨PySem.F.excBase_ValueError, kxs_ValueError, PySem.F.store_ValueError⟩
theorem bs_LookupError : Bs "LookupError" "LookupError.__init__" "LookupError.__new__" [.type "LookupError", .type "Exception", .type "BaseException", .type "object"] := ⟨PySem.F.excBase_LookupError, kxs_LookupError, PySem.F.store_LookupError⟩
theorem bs_IndexError : Bs "IndexError" "IndexError.__init__" "IndexError.__new__" [.type "IndexError", .type "LookupError", .type "Exception", .type "BaseException", .type "object"] := ⟨PySem.F.excBase_IndexError, kxs_IndexError, store_IndexError⟩
section
open Builtin Builtin.ObjectAttr
variable {prog : Program} {w : World} {A : Around} {E : Value → Shared → Prop} {R : Result → Shared → Prop} {hp : Heap} {g : Array GenState} {d : Drawn} {t : Nat} {os : OsState} {K : Frag} {B : String} {bmB : List Value}
theorem set_new {name : Str} {v : Value} {x C t0 : Addr} {Q : Unit → Shared → Prop} (SF : StoreFacts B bmB "object.__setattr__" "object") (X : K.In hp) (hx : hp.get? x = some (excObj C t0 none .none)) (hs : findIn K (.ref C) "__setattr__" = some (some (.builtin "object.__setattr__"))) (ho : excOver K C bmB = true)
    (ht : takerIn K C name = some none) (hh : hasDictIn K C = true)
    (hq : ∀ h' tk' dx, (∀ b o, b ≠ x → hp.get? b = some o → h'.get? b = some o) → hp.get? dx = none → dx ≠ x → h'.get? x = some (excObj C t0 (some dx) .none) → h'.Ns1 dx (fun y => if y = name then some v else none) → Q () ⟨h', g, d, tk', os⟩) :
    wpAny (model prog w) A (setAttr (.ref x) name v) Q E ⟨hp, g, d, t, os⟩ := by
  refine set_plain (od := none) X ⟨hx, rfl, rfl, trivial⟩ hs ?_
  refine osa_openX (s := ⟨hp, g, d, t + 1, os⟩) (od := none) SF X ⟨hx, rfl, rfl, trivial⟩ ho ht fun b => ?_
  obtain ⟨cd, hc, hd'⟩ := any_some hh
  have hxs : x ≠ hp.objs.size := Nat.ne_of_lt (Heap.lt_size hx)
  refine wpAny_bind (wpAny_pure (wpAny_bind (instanceDict_exc (s := ⟨hp, g, d, t + 1, os⟩) hx (looks_clsIn X hc) hd' ?_)))
  show wpAny _ _ (storeInDict hp.objs.size (.str name t) name v) _ _ _
  refine HandSPX.store_in_new ?_ fun h' tk' hn' hs => ?_
  · exact ⟨_, #[], _, (Heap.get?_update_ne _ _ _ _ hxs.symm).trans (Heap.get?_push_at rfl rfl), rfl, fun e he => absurd he (by simp), fun _ => rfl⟩
  · have hx₁ : (hp.push (dictOf [] 0)).get? x = some (excObj C t0 none .none) := Heap.get?_push_of_some _ hx
    refine hq h' tk' hp.objs.size (fun b o hb ho => ?_) ?_ hxs.symm ?_ hn'
    · exact (hs.2 b (Nat.ne_of_lt (Heap.lt_size ho))).trans ((Heap.get?_update_ne _ _ _ _ hb).trans (Heap.get?_push_of_some _ ho))
    · cases z : hp.get? hp.objs.size with
      | none => rfl
      | some o => exact absurd (Heap.lt_size z) (Nat.lt_irrefl _)
    · exact (hs.2 x hxs).trans (Heap.get?_update_self _ hx₁ rfl)
theorem set_old {name : Str} {v : Value} {x C t0 dx : Addr} {m0 : Str → Option Value} {nl : List Str} {Q : Unit → Shared → Prop} (SF : StoreFacts B bmB "object.__setattr__" "object") (X : K.In hp) (hx : hp.get? x = some (excObj C t0 (some dx) .none)) (hns : hp.Ns1 dx m0) (hw : Within m0 nl) (hz : nl.length ≤ 1000)
    (hs : findIn K (.ref C) "__setattr__" = some (some (.builtin "object.__setattr__"))) (ho : excOver K C bmB = true) (ht : takerIn K C name = some none) (hh : hasDictIn K C = true)
    (hq : ∀ h' tk', (∀ b o, b ≠ dx → hp.get? b = some o → h'.get? b = some o) → h'.Ns1 dx (fun y => if y = name then some v else m0 y) → Q () ⟨h', g, d, tk', os⟩) :
    wpAny (model prog w) A (setAttr (.ref x) name v) Q E ⟨hp, g, d, t, os⟩ := by
  obtain ⟨oD, esD, epD, hoD, hdD, _⟩ := hns.count hw
  refine set_plain (od := some oD) X ⟨hx, rfl, rfl, hoD⟩ hs ?_
  refine osa_openX (s := ⟨hp, g, d, t + 1, os⟩) (od := some oD) SF X ⟨hx, rfl, rfl, hoD⟩ ho ht fun b => ?_
  obtain ⟨cd, hc, hd'⟩ := any_some hh
  refine wpAny_bind (wpAny_pure (wpAny_bind (wpAny_bind (wpAny_loadPart hx (wpAny_bind ((looks_clsIn X hc).here ?_))))))
  rw [hd']
  refine wpAny_pure (a := some dx) ?_
  refine PySem.OEX.store_in_old hns hw hz fun h' tk' hn' hs => ?_
  exact hq h' tk' (fun b o hb ho => (hs.2 b hb).trans ho) hn'
end
theorem st_super {prog : Program} {w : World} {A : Around} {E : Value → Shared → Prop} {s : Shared} {K : Frag} {g : Heap} {B i newId : String} {bmB : List Value} {L C x t0 f cda cc : Addr} {q N file : Str} {tf : Tok} {scope : Scope} {body : List Stmt} {ar : Arg} {p0 p1 p2 p3 p4 : Pos} {j : Nat} {m mg mb : Str → Option Value} {fd : FuncData}
    {oc ccl cl : Value} {od cdd cld : Option Addr} {osl ccs csl : Array (Option Value)} {cvs : Array Value} {Q : Value → Shared → Prop} {cdC : ClassData} (BF : Bs B i newId bmB) (X₀ : K.In g) (F : Fr g L s.heap m) (glob : g.Ns mainGlobals mg) (hmg : mg "super" = none) (blt : g.Ns builtinsNs mb) (hmb : mb "super" = some (.type "super"))
    (hx : s.heap.get? x = some (excObj C t0 none .none)) (gx : g.get? x = none) (xL : x ≠ L) (lk : K.lookup f = some ⟨oc, od, .func fd, osl⟩) (hp : (fd.params.posonlyargs ++ fd.params.args).head? = some ar) (hv : m ar.arg = some (.ref x))
    (hcode : K.lookup cda = some ⟨ccl, cdd, .fields cvs, ccs⟩) (hvs : cvs[2]? = some (.str file tf)) (hfile : ((prog.main.file : Str) == file) = true) (hcell : K.lookup cc = some ⟨cl, cld, .cell (some (.ref C)), csl⟩) (hC : clsIn K C = some cdC) (hsub : mroIn K C (.ref C) = some true)
    (htp : nsIn K cStatics "thirdparty.any" = some none) (hm : ks_superIn K C C "__init__" = some (some (.builtin i))) (hB : subIn K (.ref C) (.type B) = some true) (hq : excInitIn K C bmB newId = true)
    (hks : scope.names.lookup ("super" : Str) = some .globalImplicit) (hkc : scope.names.lookup ("__class__" : Str) = some .free) (hka : scope.names.lookup ar.arg = some .local) (hk : scope.kind = .function) (htop : (prog.main.scope.names.lookup ("super" : Str)).isSome = false)
    (h : ∀ h' t1 tk', Fr g L h' m → h'.get? x = some (excObj C t1 none .none) → Q .none { s with heap := h', toks := tk' })
    {pl : Sem Bool} (he : eval (.Call (.Attribute (.Call (.Name "super" p0) [] [] p1) "__init__" p2) [.Constant (.str N) j p3] [] p4) (ksEnv q scope L f (.ref cda) cc) = (do
      let ov ← attributeBase (.Call (.Name "super" p0) [] [] p1) "__init__" (ksEnv q scope L f (.ref cda) cc) (eval (.Call (.Name "super" p0) [] [] p1) (ksEnv q scope L f (.ref cda) cc))
      standAt p2.atName
      let (f0, first) ← holding [ov] (getMethod ov "__init__" pl)
      callWith p4 f0 first (backTo p4 (starEach [.Constant (.str N) j p3] (ksEnv q scope L f (.ref cda) cc))) [])) :
    _root_.PySem.wpAt (model prog w) A (.func body (ksEnv q scope L f (.ref cda) cc)) (eval (.Call (.Attribute (.Call (.Name "super" p0) [] [] p1) "__init__" p2) [.Constant (.str N) j p3] [] p4) (ksEnv q scope L f (.ref cda) cc)) Q E s := by
  have X : K.In s.heap := X₀.keeps F.keep
  obtain ⟨hh, gg, d, t, os⟩ := s
  refine ks_wpAt_MethodCall (pl := pl) ?_ he
  obtain ⟨oD, hD1, hD2⟩ : ∃ oD, hh.get? C = some oD ∧ oD.data = .cls cdC := by
    unfold clsIn at hC
    split at hC
    · rename_i c d cd' sl ho
      cases hC
      exact ⟨_, X _ _ ho, rfl⟩
    · cases hC
  refine ks_wpAt_super_base (env := ksEnv q scope L f (.ref cda) cc) hks hkc (by decide) rfl (X _ _ lk) rfl hp rfl (X _ _ hcode) rfl hvs hfile htop ?_
  refine ks_loadName_global hk hks (loadGlobal_builtin (env := ksEnv q scope L f (.ref cda) cc) (glob.keeps F.keep) hmg (blt.keeps F.keep) hmb ⟨rfl, ?_⟩)
  refine wpAny_loadName_free hk hkc rfl ⟨_, X _ _ hcell, rfl⟩ ?_
  refine wpAny_loadName_local hk hka F.ns hv ?_
  refine ks_wpAny_isType_cls hD1 hD2 ⟨rfl, ?_⟩
  refine ks_wpAny_call_super hD1 hD2 hx rfl (fun c e => by cases e) (looks_mroIn X hsub) (fun h1 e1 k1 => ?_)
  have F1 : Fr g L h1 m := by
    obtain ⟨oL, es, ep, hL, r⟩ := F.ns
    exact ⟨⟨oL, es, ep, k1 _ _ hL, r⟩, fun b o e => k1 b o (F.keep b o e), F.above⟩
  have X1 : K.In h1 := X₀.keeps F1.keep
  have hx1 := k1 _ _ hx
  have I1 : InstAt h1 x (excObj C t0 none .none) C none := ⟨hx1, rfl, rfl, trivial⟩
  unfold ks_superIn at hm
  rw [hC] at hm
  refine kxs_getMethod BF.kx e1 (looks_opaque X1 htp) (l₀ := cdC.mro) ?_ rfl X1 hm (I1.type.andThen (looks_subIn X1 hB)) (ks_ne X1 I1 hC) (by decide) ?_
  · exact fun A Q E s k q => wpAny_bind ((looks_clsIn X1 hC) A _ E s k (wpAny_pure q))
  have F2 : Fr g L (h1.push (kxs_mw i x)) m := F1.push _
  have hg : ∀ {b : Addr}, h1.objs.size ≤ b → g.get? b = none := fun {b} hb => by
    cases z : g.get? b with
    | none => rfl
    | some o => exact absurd (Nat.lt_of_lt_of_le (Heap.lt_size (F1.keep _ _ z)) hb) (Nat.lt_irrefl _)
  have hL1 : L < h1.objs.size := by
    obtain ⟨oL, es, ep, hL, r⟩ := F1.ns
    exact Heap.lt_size hL
  have xu : x ≠ h1.objs.size := Nat.ne_of_lt (Heap.lt_size hx1)
  have N2 : News g L (h1.push (kxs_mw i x)) [(h1.objs.size, kxs_mw i x), (x, excObj C t0 none .none)] := fun p hp => by
    rcases List.mem_cons.mp hp with rfl | hp
    · exact ⟨Heap.get?_push_size _ rfl, Nat.ne_of_gt hL1, hg (Nat.le_refl _)⟩
    · rcases List.mem_cons.mp hp with rfl | hp
      · exact ⟨Heap.get?_push_of_some _ hx1, xL, gx⟩
      · cases hp
  refine kxs_callWith1 (x := x) (i := i) N2 (.head _) ?_
  refine Calls.spliced_cons (Calls.Constant_str (k := j) (pos := p3) (Calls.spliced_nil ?_))
  refine ⟨kxs_at N2 (.head _), ?_⟩
  refine kxs_call (s := ⟨h1.push (kxs_mw i x), gg, d, t + 1 + 1, os⟩) F2 X₀ N2 BF.ex hq (.head _) (nw := fun o' => [(h1.objs.size, kxs_mw i x), (x, o')]) (.tail (Ne.symm xu) (.head (fun _ h => nomatch h))) (by rw [sizeLine_eq]; simp) fun t' h' F3 N3 l3 => ?_
  exact h h' t' _ F3 (N3 (x, excObj C t' none .none) (by simp)).1
structure XcK (K : Frag) (C f cda cc : Addr) (file : Str) (B i newId : String) (bmB : List Value) : Prop where
  bs : Bs B i newId bmB
  hq : excInitIn K C bmB newId = true
  ini : findIn K (.ref C) "__init__" = some (some (.ref f))
  isf : isFn K (.ref f) = true
  code : ∃ (ccl : Value) (cdd : Option Addr) (cvs : Array Value) (ccs : Array (Option Value)) (tf : Tok), K.lookup cda = some ⟨ccl, cdd, .fields cvs, ccs⟩ ∧ cvs[2]? = some (.str file tf)
  cell : ∃ (cl : Value) (cld : Option Addr) (csl : Array (Option Value)), K.lookup cc = some ⟨cl, cld, .cell (some (.ref C)), csl⟩
  cls : ∃ cd, clsIn K C = some cd
  sub : mroIn K C (.ref C) = some true
  tp : nsIn K cStatics "thirdparty.any" = some none
  sup : ks_superIn K C C "__init__" = some (some (.builtin i))
  base : subIn K (.ref C) (.type B) = some true
  sa : findIn K (.ref C) "__setattr__" = some (some (.builtin "object.__setattr__"))
  ov : excOver K C bmB = true
  hd : hasDictIn K C = true
structure Gr (K : Frag) (mg : Str → Option Value) (g : Heap) : Prop where
  kin : K.In g
  glob : g.Ns mainGlobals mg
  blt : ∃ mb, g.Ns builtinsNs mb ∧ mb "super" = some (.type "super")
  nolimit : g.NoLimit
structure SupS (q N : Str) (scope : Scope) (e : Expr) (p4 : Pos) (p5 : Pos) : Prop where
  ex : ∃ p0 p1 p2 p3 j, e = .Call (.Attribute (.Call (.Name "super" p0) [] [] p1) "__init__" p2) [.Constant (.str N) j p3] [] p4 ∧
    ∃ pl : Sem Bool, ∀ (L f cda cc : Addr), eval (.Call (.Attribute (.Call (.Name "super" p0) [] [] p1) "__init__" p2) [.Constant (.str N) j p3] [] p4) (ksEnv q scope L f (.ref cda) cc) = (do
      let ov ← attributeBase (.Call (.Name "super" p0) [] [] p1) "__init__" (ksEnv q scope L f (.ref cda) cc) (eval (.Call (.Name "super" p0) [] [] p1) (ksEnv q scope L f (.ref cda) cc))
      standAt p2.atName
      let (f0, first) ← holding [ov] (getMethod ov "__init__" pl)
      callWith p4 f0 first (backTo p4 (starEach [.Constant (.str N) j p3] (ksEnv q scope L f (.ref cda) cc))) [])
  hi : ∀ (L f cda cc : Addr), interactive (ksEnv q scope L f (.ref cda) cc) = false
  hs : ∀ (L f cda cc : Addr), swapsWith e none p5.line (ksEnv q scope L f (.ref cda) cc) = pure false
structure SetS (q : Str) (scope : Scope) (e o : Expr) (fld : Str) (p p' : Pos) : Prop where
  hs : ∀ (L f cda cc : Addr), swapsWith e (some (.Attribute o fld p')) p.line (ksEnv q scope L f (.ref cda) cc) = pure false
theorem frKept {g h h' : Heap} {L x : Addr} {m : Str → Option Value} (F : Fr g L h m) (xL : L ≠ x) (gx : g.get? x = none) (k : ∀ b o, b ≠ x → h.get? b = some o → h'.get? b = some o) : Fr g L h' m := by
  obtain ⟨oL, es, ep, hL, r⟩ := F.ns
  exact ⟨⟨oL, es, ep, k _ _ xL hL, r⟩, fun b o e => k b o (fun z => by rw [z, gx] at e; cases e) (F.keep b o e), F.above⟩
theorem look_fst {a b : Str} {v u : Value} (h : b ≠ a) : List.lookup a ([(a, v), (b, u)].reverse) = some v := by
  have e : (a == b) = false := by simpa using Ne.symm h
  show List.lookup a [(b, u), (a, v)] = some v
  simp [List.lookup, e]
theorem look_snd {a b : Str} {v u : Value} : List.lookup b ([(a, v), (b, u)].reverse) = some u := by
  show List.lookup b [(b, u), (a, v)] = some u
  simp [List.lookup]
section
variable {prog : Program} {w : World} {A : Around} {R : Result → Shared → Prop} {s : Shared} {K : Frag} {g : Heap} {B i newId : String} {bmB : List Value} {C x t0 f cda cc : Addr} {q N N2 fld p : Str} {scope : Scope} {mg : Str → Option Value} {params : Arguments} {body : List Stmt}
  {dV kV doc pm ct oc : Value} {an od : Option Addr} {osl : Array (Option Value)} {u : Value}
theorem init1 (T : XcK K C f cda cc prog.main.file B i newId bmB) (G : Gr K mg g) (hmg : mg "super" = none) (htop : (prog.main.scope.names.lookup ("super" : Str)).isSome = false)
    (lk : K.lookup f = some ⟨oc, od, .func (ksFn "__init__" q params body scope dV kV doc pm an (.ref cda) ct cc), osl⟩) (hcd : codeIn K (.ref cda) q = true) (tc : takerIn K C "code" = some none) (tf : takerIn K C fld = some none)
    (keep : ∀ b o, g.get? b = some o → s.heap.get? b = some o) (hgs : g.objs.size ≤ s.heap.objs.size) (hx : s.heap.get? x = some (excObj C t0 none .none)) (gx : g.get? x = none) (hroom : A.depth < recursionLimit)
    {e0 : Expr} {j1 : Nat} {p4 p5 a1 a2 a3 a4 b1 b2 b3 b4 : Pos} (hb : body = [.Expr e0 p5, .Assign [.Attribute (.Name "self" a1) "code" a2] (.Constant (.str N2) j1 a3) a4, .Assign [.Attribute (.Name "self" b1) fld b2] (.Name p b3) b4])
    (S0 : SupS q N scope e0 p4 p5) (S1 : SetS q scope (.Constant (.str N2) j1 a3) (.Name "self" a1) "code" a4 a2) (S2 : SetS q scope (.Name p b3) (.Name "self" b1) fld b4 b2)
    (bd : BindsTo s (ksFn "__init__" q params body scope dV kV doc pm an (.ref cda) ct cc) ⟨[.ref x, u], []⟩ [(("self" : Str), Value.ref x), (p, u)]) (har : ∃ ar, (params.posonlyargs ++ params.args).head? = some ar ∧ ar.arg = "self")
    (hks : scope.names.lookup ("super" : Str) = some .globalImplicit) (hkc : scope.names.lookup ("__class__" : Str) = some .free) (hka : scope.names.lookup ("self" : Str) = some .local) (hkp : scope.names.lookup p = some .local) (hk : scope.kind = .function)
    (hco : scope.isCoroutine = false) (hgen : scope.isGenerator = false) (hnc : ∀ x ∈ scope.names, x.2 ≠ .cell) (hps : p ≠ "self") (hpd : (p == ("__debug__" : Str)) = false)
    (hq : ∀ h' t1 dx tk tk2, (∀ b o, g.get? b = some o → h'.get? b = some o) → g.get? dx = none → dx ≠ x → h'.get? x = some (excObj C t1 (some dx) .none) → h'.Ns1 dx (fun y => if y = fld then some u else if y = "code" then some (.str N2 tk2) else none) →
      R (.ok (.ret .none)) { s with heap := h', toks := tk }) : codeAny (model prog w) A (.call (.ref f) ⟨[.ref x, u], []⟩) R s := by
  subst hb
  have X : K.In s.heap := G.kin.keeps keep
  obtain ⟨mb, blt, hmb⟩ := G.blt
  obtain ⟨ar, har, eself⟩ := har
  obtain ⟨ccl, cdd, cvs, ccs, tf0, hcode, hvs⟩ := T.code
  obtain ⟨cl, cld, csl, hcell⟩ := T.cell
  obtain ⟨cdC, hC⟩ := T.cls
  refine ks_codeAny_call_defAt hroom (X _ _ lk) rfl (G.nolimit.keeps keep) (codeRec_of X hcd) rfl bd hnc (fun y hy => ?_) (fun h1 hns k1 => ?_) hco hgen hk
  · rcases List.mem_cons.mp hy with rfl | hy
    · exact hka
    · rcases List.mem_cons.mp hy with rfl | hy
      · exact hkp
      · cases hy
  have gsz : g.objs.size ≤ s.heap.objs.size := hgs
  have hxL : x ≠ s.heap.objs.size := Nat.ne_of_lt (Heap.lt_size hx)
  have hx1 := k1 _ _ hx
  generalize s.heap.objs.size = L at hns gsz hxL ⊢
  have F1 : Fr g L h1 (fun y => [(("self" : Str), Value.ref x), (p, u)].reverse.lookup y) := ⟨hns, fun b o e => k1 b o (keep b o e), gsz⟩
  have mself : List.lookup ("self" : Str) ([(("self" : Str), Value.ref x), (p, u)].reverse) = some (.ref x) := look_fst hps
  have mp : List.lookup p ([(("self" : Str), Value.ref x), (p, u)].reverse) = some u := look_snd
  obtain ⟨p0, p1, p2, p3, j, rfl, pl, he⟩ := S0.ex
  obtain ⟨hh, gg, d, tk0, os⟩ := s
  refine ks_wpAt_execs_cons (ks_wpAt_Expr_any (st_super (ar := ar) T.bs G.kin F1 G.glob hmg blt hmb hx1 gx hxL lk har (by rw [eself]; exact mself) hcode hvs (by simp) hcell hC T.sub T.tp T.sup T.base T.hq hks hkc (by rw [eself]; exact hka) hk htop (fun h2 t1 tk1 F2 hx2 => ?_) (he _ _ _ _)) (S0.hi _ _ _ _) (S0.hs _ _ _ _))
  refine ks_wpAt_execs_cons (ks_wpAt_Assign_Attr (wpAt_of_wpAny (Calls.Constant_str ?_)) (S1.hs _ _ _ _))
  refine wpAny_Name (wpAny_loadName_local hk hka F2.ns mself ?_) (by decide)
  refine set_new T.bs.st (G.kin.keeps F2.keep) hx2 T.sa T.ov tc T.hd fun h3 tk3 dx k3 dn dne hx3 n3 => ?_
  have F3 := frKept F2 (Ne.symm hxL) gx k3
  have gd : g.get? dx = none := by
    cases z : g.get? dx with
    | none => rfl
    | some o => rw [F2.keep _ _ z] at dn; cases dn
  have dL : L ≠ dx := fun z => by
    obtain ⟨oL, es, ep, hL, r⟩ := F2.ns
    rw [z] at hL
    rw [hL] at dn
    cases dn
  refine ks_wpAt_execs_cons (ks_wpAt_Assign_Attr (wpAt_of_wpAny (wpAny_Name (wpAny_loadName_local hk hkp F3.ns mp ?_) hpd)) (S2.hs _ _ _ _))
  refine wpAny_Name (wpAny_loadName_local hk hka F3.ns mself ?_) (by decide)
  refine set_old (nl := ["code"]) T.bs.st (G.kin.keeps F3.keep) hx3 n3 (fun y hy => ?_) (by simp) T.sa T.ov tf T.hd fun h4 tk4 k4 n4 => ?_
  · by_cases hc : y = ("code" : Str)
    · rw [hc]; exact List.mem_singleton.mpr rfl
    · exact absurd (if_neg hc) hy
  have F4 := frKept F3 dL gd k4
  refine wpAt_of_wpAny (wpAny_execs_nil ?_)
  exact hq h4 t1 dx tk4 _ F4.keep gd dne (k4 _ _ (Ne.symm dne) hx3) n4
end
end Exi
end Dl
namespace Dl
open PySem PySem.Spec PyProof.Rows L2
namespace Exi
open PySem.Calls PySem.W
def fldsOf (fl : List Str) (N : Str) (us : List Value) (tk : Tok) : Str → Option Value := fun y => match fl, us with
  | [f], [u] => if y = f then some u else if y = ("code" : Str) then some (.str N tk) else none
  | _, _ => if y = ("code" : Str) then some (.str N tk) else none
def XcM (P : Program) (K : Frag) (mg : Str → Option Value) (C : Addr) (fl : List Str) (N : Str) : Prop :=
  ∀ (w : World) (A : Around) (s : Shared) (us : List Value) (Q : Value → Shared → Prop) (E : Value → Shared → Prop), us.length = fl.length → Gr K mg s.heap → (A.under (.builtin "type.__call__" ⟨.ref C :: us, []⟩)).depth < recursionLimit →
    (∀ a h' t1 dx tk tk2, (∀ b o, s.heap.get? b = some o → h'.get? b = some o) → s.heap.get? a = none → s.heap.get? dx = none → dx ≠ a → h'.get? a = some (excObj C t1 (some dx) .none) → h'.Ns1 dx (fldsOf fl N us tk2) → Q (.ref a) { s with heap := h', toks := tk }) →
    wpAny (model P w) A (call (.ref C) us) Q E s
section
variable {prog : Program} {K : Frag} {B i newId : String} {bmB : List Value} {C f cda cc : Addr} {q N N2 fld p : Str} {scope : Scope} {mg : Str → Option Value} {params : Arguments} {body : List Stmt}
  {dV kV doc pm ct oc : Value} {an od : Option Addr} {osl : Array (Option Value)}
theorem xcM_of {fl : List Str} (T : XcK K C f cda cc prog.main.file B i newId bmB)
    (run : ∀ (w : World) (A : Around) (R : Result → Shared → Prop) (s : Shared) (g : Heap) (x t0 : Addr) (us : List Value), us.length = fl.length → Gr K mg g → (∀ b o, g.get? b = some o → s.heap.get? b = some o) → g.objs.size ≤ s.heap.objs.size → s.heap.get? x = some (excObj C t0 none .none) → g.get? x = none → A.depth < recursionLimit →
      (∀ h' t1 dx tk tk2, (∀ b o, g.get? b = some o → h'.get? b = some o) → g.get? dx = none → dx ≠ x → h'.get? x = some (excObj C t1 (some dx) .none) → h'.Ns1 dx (fldsOf fl N us tk2) → R (.ok (.ret .none)) { s with heap := h', toks := tk }) → codeAny (model prog w) A (.call (.ref f) ⟨.ref x :: us, []⟩) R s)
    (hfl : fl.length ≤ 1) : XcM prog K mg C fl N := by
  intro w A s us Q E hl G hr hq
  obtain ⟨nm, N', qn, bs, bm, hdct, sn, sub, ab, col, dd, k0, k1, k2, k3, k5, hC, hT⟩ := excInit_of G.kin T.hq
  obtain ⟨oI, hoI, hcI⟩ : ∃ oI, s.heap.get? f = some oI ∧ oI.cls = .type "function" := by
    obtain ⟨o, ho, hc⟩ := Option.map_eq_some_iff.mp (show (K.lookup f).map (·.cls) = some (.type "function") from beq_iff_eq.mp T.isf)
    exact ⟨o, G.kin _ _ ho, hc⟩
  have hi' : Looks (model prog w) s.heap (typeLookup (.ref C) "__init__") (some (.ref f)) := looks_findIn G.kin T.ini
  obtain ⟨hh, g, d, tk, os⟩ := s
  have no : ∀ {b : Addr}, hh.objs.size ≤ b → hh.get? b = none := fun {b} hb => by
    cases z : hh.get? b with
    | none => rfl
    | some o => exact absurd (Nat.lt_of_lt_of_le (Heap.lt_size z) hb) (Nat.lt_irrefl _)
  refine wpAny_call (PX.call_own T.bs.ex hT hC hi' (fun self => exc_bind hoI hcI self) (by rw [sizeLine_eq]; omega) ?_)
  refine run w _ _ _ hh (hh.objs.size + 1) hh.objs.size us hl G (fun b o e => Heap.get?_push_of_some _ (Heap.get?_push_of_some _ e)) (by show _ ≤ ((hh.push _).push _).objs.size; rw [Heap.size_push, Heap.size_push]; omega) (by heap_get) (no (Nat.le_succ _)) hr ?_
  intro h' t1 dx tk' tk2 k dn dne hx n
  exact ⟨rfl, hq _ h' t1 dx tk' tk2 k (no (Nat.le_succ _)) dn dne hx n⟩
end
def fsOf (fl : List Str) (N : Str) (vs : List V) : List (Str × V) := fl.zip vs ++ [(("code" : Str), .str N)]
theorem relO_fs {fl : List Str} {N : Str} {vs : List V} {us : List Value} {tk : Tok} (hl : us.length = fl.length) (hfl : fl.length ≤ 1) (r : Vals vs us) (y : Str) : RelO ((fsOf fl N vs).lookup y) (fldsOf fl N us tk y) := by
  have base : RelO ([(("code" : Str), V.str N)].lookup y) (if y = ("code" : Str) then some (.str N tk) else none) := by
    rw [L2.lookup_put]
    by_cases h : y = ("code" : Str)
    · rw [if_pos h, if_pos h]; exact ⟨_, rfl⟩
    · rw [if_neg h, if_neg h]; exact True.intro
  match fl, us, vs, r with
  | [], [], [], .nil => exact base
  | [f], [u], [v], .cons rv .nil =>
    show RelO (((f, v) :: [(("code" : Str), V.str N)]).lookup y) (if y = f then some u else _)
    rw [L2.lookup_put]
    by_cases h : y = f
    · rw [if_pos h, if_pos h]; exact rv
    · rw [if_neg h, if_neg h]; exact base
  | _ :: _ :: _, _, _, _ => simp at hfl
section
variable {X : Cx} {pins : List (Addr × Obj)} {σ : L2.St} {H : Hp} {s : Shared}
theorem gr_of (I : Inv X pins σ H s) : Gr X.K X.mg s.heap := by
  obtain ⟨mb, h1, h2⟩ := I.mod.blt
  exact ⟨I.kIn, I.mod.glob.keeps I.bk, ⟨mb, h1.keeps I.bk, (h2 _ (by decide +kernel)).trans PyProof.Rows.Boot.«super»⟩, I.nolimit⟩
theorem made {h' : Heap} {a dx C t1 : Addr} {tk : Nat} {mA : Str → Option Value} {fs : List (Str × V)} (I : Inv X pins σ H s) (k : ∀ b o, s.heap.get? b = some o → h'.get? b = some o) (an : s.heap.get? a = none) (dn : s.heap.get? dx = none) (dne : dx ≠ a)
    (ha : h'.get? a = some (excObj C t1 (some dx) .none)) (n : h'.Ns1 dx mA) (r : ∀ f, RelO (fs.lookup f) (mA f)) :
    H dx = none ∧ (upd H dx (.xd fs)) a = none ∧ ∃ G, Inv X pins σ (upd H dx (.xd fs)) { s with heap := G, toks := tk } ∧ (∀ b o, G.get? b = some o → h'.get? b = some o) ∧ G.get? a = none := by
  obtain ⟨G, g1, g2⟩ := L2.restrict h' fun b => decide (b ≠ a)
  have gk : ∀ b, b ≠ a → G.get? b = h'.get? b := fun b hb => g1 b (decide_eq_true hb)
  have ge : G.get? a = none := g2 a (by simp)
  have hd := I.hok.gone dn
  refine ⟨hd, by rw [upd_ne (Ne.symm dne)]; exact I.hok.gone an, G, I.laidN (fun b u e => (gk b fun z => by rw [z, an] at e; cases e).trans (k b u e)) dn hd ?_, fun b o e => ?_, ge⟩
  · exact ⟨mA, n.at fun o y => (gk dx dne).trans y, r⟩
  · by_cases hb : b = a
    · rw [hb, ge] at e; cases e
    · exact (gk b hb).symm.trans e
end
structure XcC (P : Program) (K : Frag) (mg : Str → Option Value) (C : Addr) (fl : List Str) (N : Str) : Prop where
  mak : XcM P K mg C fl N
  fl1 : fl.length ≤ 1
  exC : subIn K (.ref C) (.type "BaseException") = some true
  tyC : typeIn K (.ref C) = some (.type "type")
  kC : keepIn K (.ref C) = true
section
variable {X : Cx} {x : Str} {C : Addr} {fl : List Str} {N : Str} {e : Expr} {es : List Expr} {ta : TA} {p pos : Pos}
theorem run_xc {pins : List (Addr × Obj)} {σ : L2.St} {H : Hp} {s : Shared} {Q : XK} {us : List Value} {vs : List V} {E : Value → Shared → Prop} (D : XcC X.prog X.K X.mg C fl N) (hr : Room 1 X.A) (I : Inv X pins σ H s) (r : Vals vs us) (hl : vs.length = fl.length)
    (hq : ∀ dx, H dx = none → Q (.ref C) (some dx) (upd H dx (.xd (fsOf fl N vs)))) : wpAny (model X.prog X.w) X.A (call (.ref C) us) (MkP X pins σ Q) E s := by
  have hu : us.length = fl.length := by rw [← r.length]; exact hl
  refine D.mak X.w X.A s us _ _ hu (gr_of I) (hr.make C us []).depth fun a h' t1 dx tk tk2 k an dn dne ha n => ?_
  obtain ⟨hd, na, G, J, kG, ge⟩ := made (tk := tk) I k an dn dne ha n (relO_fs hu D.fl1 r)
  exact ⟨a, _, _, { s with heap := G, toks := tk }, _, .ref C, some dx, rfl, J, kG, ge, ha, ⟨rfl, rfl⟩, rfl, rfl, na, rfl, I.bare, raises_own D.exC D.tyC, hq dx hd⟩
theorem pmk_xc (D : XcC X.prog X.K X.mg C fl N) (hr : Room 1 X.A) (hg : Gl X x) (hm : X.mg x = some (.ref C)) (ha : PA X (e :: es) ta) (hdb : (x == ("__debug__" : Str)) = false := by decide)
    (he : starEach (e :: es) X.env = (false, eval e X.env) :: starEach es X.env := by rfl) (hpl : (backTo pos (starEach es X.env)).any (·.1) = false := by rfl) :
    PMk X (.Call (.Name x p) (e :: es) [] pos) (fun σ H Q => ta σ H fun vs H1 => vs.length = fl.length ∧ ∀ dx, H1 dx = none → Q (.ref C) (some dx) (upd H1 dx (.xd (fsOf fl N vs)))) := by
  intro pins s σ H Q I h
  refine wpAny_Call_Name_kw (ld_glob I hg hm ?_ hdb)
  refine PySem.W.callWith_K (h₀ := X.base) I.ok.mod.kin D.kC (thn (ha.run pos pins s σ H _ I h) fun us s1 ⟨vs, H1, I1, r1, hl, q1⟩ => ⟨I1.kIn, ?_⟩) he hpl
  exact run_xc D hr I1 r1 hl q1
end
end Exi
structure XcD (P : Program) (K : PySem.W.Frag) (mg : Str → Option Value) (c : Str) (fl : List Str) (N : List Nat) : Prop where
  cl : Exi.XcC P K mg (He.ga K c) fl (mkS N)
  gl : mg c = some (.ref (He.ga K c))
section
variable [TheW] {X : Cx} {n : En} {c : Str} {fl : List Str} {N : List Nat} {e : Expr} {es : List Expr} {wa : DA} {p pos pos2 : Pos}
structure raiP (c : Str) (fl : List Str) (N : List Nat) (ws : List W) (st : Dst) (E : DX) : Prop where
  ex : ∃ ds, ws = ds.map W.d ∧ ds.length = fl.length ∧ E ⟨c, fl ++ [("code" : Str)], ds ++ [.str N]⟩ st
def wRaise (c : Str) (fl : List Str) (N : List Nat) (wa : DA) : DS := fun D st => wa st (fun ws st1 => raiP c fl N ws st1 D.ex) D.ex
theorem excRep_of {K : PySem.W.Frag} {F : Hp} {ρ : List Addr} {H : Hp} {ds : List D} {vs : List V} {dx : Addr} (hl : ds.length = fl.length) (r : RepL K F ds vs) (hF : F dx = some (.xd (Exi.fsOf fl (mkS N) vs))) : ExRep K F ⟨c, fl ++ [("code" : Str)], ds ++ [.str N]⟩ (.ref (He.ga K c)) (some dx) H := by
  have hv : vs.length = fl.length := by rw [← r.len]; exact hl
  refine ⟨rfl, dx, _, rfl, hF, ?_, ?_⟩
  · unfold Exi.fsOf
    rw [List.map_append]
    have := List.map_fst_zip (l₁ := fl) (l₂ := vs) (by omega)
    rw [this]
    rfl
  · unfold Exi.fsOf
    rw [List.map_append]
    have := List.map_snd_zip (l₁ := fl) (l₂ := vs) (by omega)
    rw [this]
    exact r.app (RepL.one rfl)
theorem psd_raise (D : XcD X.prog X.K X.mg c fl N) (hr : Room 1 X.A) (hc : X.calm = true) (hg : Gl X c) (ha : PAD X n (e :: es) wa) (hdb : (c == ("__debug__" : Str)) = false := by decide)
    (he : starEach (e :: es) X.env = (false, eval e X.env) :: starEach es X.env := by rfl) (hpl : (backTo pos (starEach es X.env)).any (·.1) = false := by rfl) :
    PSD X n (.Raise (some (.Call (.Name c p) (e :: es) [] pos)) none pos2) (wRaise c fl N wa) := by
  refine ⟨fun pins s σ H F ρ st DD I R tk hw => ?_⟩
  have z := (ps_raise (pos := pos2) hc tk (Exi.pmk_xc (p := p) (pos := pos) D.cl hr hg D.gl ha.pa hdb he hpl)).run pins s σ H (qD X n F ρ H DD) I ?_
  · exact thn z fun f s1 q => SP.spd q
  refine tA.use R tk hw fun vs ws st1 H1 F1 ρ1 p1 R1 rw1 h1 => ?_
  obtain ⟨ds, rfl, hl, h1⟩ := h1.ex
  have rd := rw1.ofD
  refine ⟨by rw [← rd.len]; exact hl, fun dx hdx => ?_⟩
  have R2 := R1.data (o := .xd (Exi.fsOf fl (mkS N) vs)) hdx
  exact ⟨st1, _, ρ1, _, R2, excRep_of (ρ := ρ1) hl (RepL.sub (Post.data R1.ok.sub hdx (ρ := ρ1)).le _ _ rd) upd_same, h1⟩
end
end Dl
namespace Dl
open PySem PySem.Spec PyProof.Rows L2
namespace Exi
open PySem.Calls PySem.W
theorem kB_ok : ∀ k, Bs (kB k).1 (kB k).2.1 (kB k).2.2.1 (kB k).2.2.2
  | 0 => bs_ValueError
  | 1 => bs_LookupError
  | _ + 2 => bs_IndexError
theorem xcK_of {K : Frag} {c qual file : Str} {k : Nat} {fl : List Str} (h : xcB K c qual k file fl = true) : XcK K (He.ga K c) (He.ma K (He.ga K c) "__init__") (cdA K (He.ma K (He.ga K c) "__init__")) (ccA K (He.ma K (He.ga K c) "__init__")) file (kB k).1 (kB k).2.1 (kB k).2.2.1 (kB k).2.2.2 := by
  have at_ := fun (i : Nat) (b : Bool) e => List.all_eq_true.mp h b (List.mem_of_getElem? (i := i) e)
  refine ⟨kB_ok k, at_ 0 _ rfl, He.eqO_ok (at_ 1 _ rfl), at_ 2 _ rfl, ?_, ?_, ?_, of_decide_eq_true (at_ 6 _ rfl), He.eqO_ok (at_ 7 _ rfl), He.eqO_ok (at_ 8 _ rfl), of_decide_eq_true (at_ 9 _ rfl), He.eqO_ok (at_ 10 _ rfl), at_ 11 _ rfl, at_ 12 _ rfl⟩
  · have z := at_ 3 _ rfl
    revert z
    show (match K.lookup (cdA K (He.ma K (He.ga K c) "__init__")) with | some ⟨_, _, .fields cvs, _⟩ => (match (cvs[2]? : Option Value) with | some (.str x _) => decide (x = file) | _ => false) | _ => false) = true → _
    split
    · rename_i q1 q2 cvs q3 q4
      split
      · rename_i x tk q5
        intro z
        obtain rfl : x = file := of_decide_eq_true z
        exact ⟨_, _, _, _, _, q4, q5⟩
      · intro z; cases z
    · intro z; cases z
  · have z := at_ 4 _ rfl
    revert z
    show (match K.lookup (ccA K (He.ma K (He.ga K c) "__init__")) with | some ⟨_, _, .cell (some (.ref C')), _⟩ => decide (C' = He.ga K c) | _ => false) = true → _
    split
    · rename_i q1 q2 C' q3 q4
      intro z
      obtain rfl : C' = He.ga K c := of_decide_eq_true z
      exact ⟨_, _, _, q4⟩
    · intro z; cases z
  · exact Option.isSome_iff_exists.mp (at_ 5 _ rfl)
theorem fd_of {K : Frag} {c qual file : Str} {k : Nat} {fl : List Str} {st : Stmt} (h : xcB K c qual k file fl = true) (hV : prV K ⟨c, "__init__", qual, st, true, false⟩ = (PrF.mk c "__init__" qual st true false).val) :
    ∃ (oc : Value) (od : Option Addr) (doc pm ct kV : Value) (an : Option Addr) (osl : Array (Option Value)), K.lookup (He.ma K (He.ga K c) "__init__") = some ⟨oc, od, .func (ksFn "__init__" qual (defArgs st) (defBody st) (defScope st) .none kV doc pm an (.ref (cdA K (He.ma K (He.ga K c) "__init__"))) ct (ccA K (He.ma K (He.ga K c) "__init__"))), osl⟩ ∧
      codeIn K (.ref (cdA K (He.ma K (He.ga K c) "__init__"))) qual = true := by
  have z := List.all_eq_true.mp h _ (List.mem_of_getElem? (i := 13) rfl)
  have hV : fnZ K (He.ma K (He.ga K c) "__init__") = some (("__init__" : Str), qual, defArgs st, .stmts (defBody st), defScope st, mainGlobals, [(("__class__" : Str), 0)], builtinsNs) := hV
  generalize He.ma K (He.ga K c) "__init__" = f at z hV ⊢
  have z : (fdA K f).any (cdOk K qual) = true := z
  unfold fnZ at hV
  unfold cdA ccA
  unfold fdA at z ⊢
  split at hV
  · rename_i oc od fd osl q
    rw [q] at z ⊢
    obtain ⟨n1, n2, n3, n4, n5, n6, n7, n8, n9, n10, n11, n12, n13, n14, n15⟩ := fd
    simp only [Option.some.injEq, Prod.mk.injEq] at hV
    obtain ⟨z1, z2, z3, z4, z5, z6, z7, z8⟩ := hV
    obtain ⟨k1, k2⟩ := He.ba (show (isRef n13 && (codeIn K n13 qual && (He.dflB K n8 [] && He.kwdB K n9 []))) = true from z)
    obtain ⟨k3, k4⟩ := He.ba k2
    obtain ⟨k5, k6⟩ := He.ba k4
    have hd : n8 = .none := by
      rcases He.dflB_ok k5 with ⟨_, e⟩ | ⟨e, _⟩
      · exact e
      · exact absurd rfl e
    obtain ⟨cc, rfl⟩ : ∃ cc, n7 = [(("__class__" : Str), cc)] := by
      match n7, z7 with
      | [(a, b)], z7 =>
        simp only [List.map_cons, List.map_nil, List.cons.injEq, Prod.mk.injEq, and_true] at z7
        exact ⟨b, by rw [z7]⟩
    obtain ⟨cd, rfl⟩ : ∃ cd, n13 = .ref cd := by
      cases n13 <;> first | exact ⟨_, rfl⟩ | cases k1
    subst z1 z2 z3 z4 z5 z6 z8 hd
    exact ⟨oc, od, n10, n11, n14, n9, n12, osl, rfl, k3⟩
  · cases hV
theorem xc1_of {P : Program} {K : Frag} {mg : Str → Option Value} {c qual fld p N N2 : Str} {k : Nat} {st : Stmt} (h : xcB K c qual k P.main.file [fld] = true) (hV : prV K ⟨c, "__init__", qual, st, true, false⟩ = (PrF.mk c "__init__" qual st true false).val) (hmg : mg "super" = none) (htop : (P.main.scope.names.lookup ("super" : Str)).isSome = false)
    {e0 : Expr} {j1 : Nat} {p4 p5 a1 a2 a3 a4 b1 b2 b3 b4 : Pos} (hb : defBody st = [.Expr e0 p5, .Assign [.Attribute (.Name "self" a1) "code" a2] (.Constant (.str N2) j1 a3) a4, .Assign [.Attribute (.Name "self" b1) fld b2] (.Name p b3) b4])
    (S0 : SupS qual N (defScope st) e0 p4 p5) (S1 : SetS qual (defScope st) (.Constant (.str N2) j1 a3) (.Name "self" a1) "code" a4 a2) (S2 : SetS qual (defScope st) (.Name p b3) (.Name "self" b1) fld b4 b2)
    (bd : ∀ (kV doc pm cdv ct : Value) (an : Option Addr) (cc : Addr) (a u : Value), bindArgs (ksFn "__init__" qual (defArgs st) (defBody st) (defScope st) .none kV doc pm an cdv ct cc) ⟨[a, u], []⟩ = pure [(("self" : Str), a), (p, u)]) (har : ∃ ar, ((defArgs st).posonlyargs ++ (defArgs st).args).head? = some ar ∧ ar.arg = "self")
    (hks : (defScope st).names.lookup ("super" : Str) = some .globalImplicit) (hkc : (defScope st).names.lookup ("__class__" : Str) = some .free) (hka : (defScope st).names.lookup ("self" : Str) = some .local) (hkp : (defScope st).names.lookup p = some .local) (hk : (defScope st).kind = .function)
    (hco : (defScope st).isCoroutine = false) (hgen : (defScope st).isGenerator = false) (hnc : ∀ x ∈ (defScope st).names, x.2 ≠ .cell) (hps : p ≠ "self") (hpd : (p == ("__debug__" : Str)) = false) : XcC P K mg (He.ga K c) [fld] N2 := by
  have at_ := fun (i : Nat) (b : Bool) e => List.all_eq_true.mp h b (List.mem_of_getElem? (i := i) e)
  have T := xcK_of h
  obtain ⟨oc, od, doc, pm, ct, kV, an, osl, lk, hcd⟩ := fd_of h hV
  have tk := List.all_eq_true.mp (at_ 14 _ rfl)
  refine ⟨xcM_of T (fun w A R s g x t0 us hl G keep hgs hx gx hr hq => ?_) (by simp), by simp, of_decide_eq_true (at_ 15 _ rfl), of_decide_eq_true (at_ 16 _ rfl), at_ 17 _ rfl⟩
  match us, hl with
  | [u], _ => exact init1 T G hmg htop lk hcd (He.eqO_ok (tk _ (.head _))) (He.eqO_ok (tk _ (.tail _ (.head _)))) keep hgs hx gx hr hb S0 S1 S2 (.of_eq (bd ..)) har hks hkc hka hkp hk hco hgen hnc hps hpd hq
end Exi
end Dl
namespace Dl
open PySem PySem.Spec PyProof.Rows L2
variable [TheW]
theorem Rl.under {K : PySem.W.Frag} {n : En} {F F0 : Hp} {ρ ρ0 : List Addr} {st : Dst} {σ : L2.St} {H H0 : Hp} (R : Rl K ⟨F0, ρ0, H0⟩ F ρ st σ H) (p : Post n.F n.ρ n.H F0 ρ0 H0) (d : ∀ c ∈ ρ0, H0 c ≠ none) : Rl K n F ρ st σ H :=
  ⟨R.ok, p.trans R.po d, R.len, R.slots⟩
end Dl
namespace Dl
open PySem PySem.Spec PyProof.Rows L2
structure RmH (k : Nat) (A : Around) : Prop where
  dp : A.depth + 3 * k + 5 < recursionLimit
  un : A.units + 16 * k + 200 < cLine
theorem RmH.mono {j k : Nat} {A : Around} (r : RmH k A) (h : j ≤ k) : RmH j A := ⟨by have := r.dp; omega, by have := r.un; omega⟩
theorem RmH.deeper {k : Nat} {A : Around} (r : RmH (k + 1) A) (env : Env) : RmH k (A.deeper env) :=
  ⟨by have := r.dp; show A.depth + 1 + 3 * k + 5 < _; omega, by have := r.un; show A.units + 3 + 16 * k + 200 < _; omega⟩
theorem RmH.depth {k : Nat} {A : Around} (r : RmH k A) : A.depth < recursionLimit := by have := r.dp; omega
variable [TheW]
end Dl
namespace Dl
open PySem PySem.Spec PyProof.Rows L2
def inC (cl : List (Str × Addr)) (b : Addr) : Prop := b ∈ cl.filterMap fun p => cl.lookup p.1
instance (cl : List (Str × Addr)) (b : Addr) : Decidable (inC cl b) := by unfold inC; infer_instance
def CelH (cl : List (Str × Addr)) (H : Hp) : Prop := ∀ b, inC cl b → ∃ o u, H b = some (exactO b o) ∧ o.data = .cell u
end Dl
namespace Dl
open PySem PySem.Spec PyProof.Rows L2
variable [TheW]
structure EnC (K : PySem.W.Frag) (n : En) (cl : List (Str × Addr)) (cs : List (Str × D)) : Prop where
  cel : CelH cl n.H
  inj : ∀ x y c, cl.lookup x = some c → cl.lookup y = some c → x = y
  fF : ∀ b, inC cl b → n.F b = none
  fρ : ∀ b, inC cl b → b ∉ n.ρ
  val : ∀ x d, (x, d) ∈ cs → ∃ c o u v, cl.lookup x = some c ∧ n.H c = some (exactO c o) ∧ o.data = .cell (some u) ∧ RelV v u ∧ Rep K n.F d v
theorem lookup_in {cl : List (Str × Addr)} {x : Str} {c : Addr} (h : cl.lookup x = some c) : inC cl c := List.mem_filterMap.mpr ⟨(x, c), PySem.mem_of_lookup h, h⟩
theorem exact_ntbl {b : Addr} {o : Obj} (ps : Array Value) : exactO b o ≠ .tbl ps := fun z => by unfold exactO at z; cases z
theorem EnC.post {K : PySem.W.Frag} {n : En} {cl : List (Str × Addr)} {cs : List (Str × D)} (e : EnC K n cl cs) {F : Hp} {ρ : List Addr} {H : Hp} (p : Post n.F n.ρ n.H F ρ H) : EnC K ⟨F, ρ, H⟩ cl cs where
  cel := fun b hb => by
    obtain ⟨o, u, h1, h2⟩ := e.cel b hb
    exact ⟨o, u, p.keep b _ h1 (e.fρ b hb) exact_ntbl, h2⟩
  inj := e.inj
  fF := fun b hb => by
    show F b = none
    cases z : F b with
    | none => rfl
    | some o =>
      obtain ⟨o', u, h1, _⟩ := e.cel b hb
      rcases p.new b (by rw [z]; simp) with h | h | h
      · exact absurd (e.fF b hb) h
      · rw [h1] at h; cases h
      · exact absurd h (e.fρ b hb)
  fρ := fun b hb hm => by
    obtain ⟨o', u, h1, _⟩ := e.cel b hb
    have := p.fresh b hm (e.fρ b hb)
    rw [h1] at this; cases this
  val := fun x d hm => by
    obtain ⟨c, o, u, v, h1, h2, h3, h4, h5⟩ := e.val x d hm
    exact ⟨c, o, u, v, h1, p.keep c _ h2 (e.fρ c (lookup_in h1)) exact_ntbl, h3, h4, Rep.sub p.le _ _ h5⟩
end Dl
namespace Dl
open PySem PySem.Spec PyProof.Rows L2
variable [TheW]
theorem RmH.units {k : Nat} {A : Around} (r : RmH k A) : A.units + 64 < cLine := by have := r.un; omega
end Dl
namespace Dl
open PySem PySem.Spec PyProof.Rows L2
variable [TheW]
section
variable {K : PySem.W.Frag} {F : Hp} {ρ : List Addr}
theorem RepWL.getV : ∀ {ws : List W} {vs : List V} {i : Nat}, RepWL K F ρ ws vs → i < ws.length → ∃ w v, ws[i]? = some w ∧ vs[i]? = some v ∧ RepW K F ρ w v
  | [], _, i, _, h => absurd h (Nat.not_lt_zero i)
  | w :: ws, _, i, r, h => by
    obtain ⟨v, t, rfl, q, r⟩ := r
    cases i with
    | zero => exact ⟨w, v, rfl, rfl, q⟩
    | succ i =>
      obtain ⟨w', v', e1, e2, q'⟩ := RepWL.getV (i := i) r (by simpa using h)
      exact ⟨w', v', by simpa using e1, by simpa using e2, q'⟩
end
end Dl
namespace Dl
open PySem PySem.Spec PyProof.Rows L2
mutual
theorem plain_py : ∀ (n : Nat) (d : D), plainD n d = true → ∃ p, pyD d = some p ∧ p.canLay0 = true ∧ p.depth ≤ n
  | 0, _, h => by unfold plainD at h; cases h
  | n + 1, .non, _ => ⟨_, by unfold pyD; rfl, by unfold PyData.canLay0; rfl, by unfold PyData.depth; omega⟩
  | n + 1, .bl b, _ => ⟨_, by unfold pyD; rfl, by unfold PyData.canLay0; rfl, by unfold PyData.depth; omega⟩
  | n + 1, .int i, _ => ⟨_, by unfold pyD; rfl, by unfold PyData.canLay0; rfl, by unfold PyData.depth; omega⟩
  | n + 1, .str x, h => by
    unfold plainD at h
    exact ⟨_, by unfold pyD; rfl, by unfold PyData.canLay0 PyData.strOk; simpa [mkS] using h, by unfold PyData.depth; omega⟩
  | n + 1, .tup xs, h => by
    unfold plainD at h
    obtain ⟨ps, e, c, d⟩ := plain_pyL n xs (Bool.and_eq_true_iff.mp h).2
    exact ⟨.tuple ps, by unfold pyD; rw [e]; rfl, by unfold PyData.canLay0; exact c, by unfold PyData.depth; omega⟩
  | n + 1, .lst xs, h => by
    unfold plainD at h
    obtain ⟨ps, e, c, d⟩ := plain_pyL n xs (Bool.and_eq_true_iff.mp h).2
    exact ⟨.list ps, by unfold pyD; rw [e]; rfl, by unfold PyData.canLay0; exact c, by unfold PyData.depth; omega⟩
  | n + 1, .dic _ _, h => by unfold plainD at h; cases h
  | n + 1, .ins _ _ _, h => by unfold plainD at h; cases h
  | n + 1, .ty _, h => by unfold plainD at h; cases h
  | n + 1, .cls _, h => by unfold plainD at h; cases h
  | n + 1, .exc _ _ _, h => by unfold plainD at h; cases h
  | n + 1, .lamR _ _, h => by unfold plainD at h; cases h
  | n + 1, .lam _ _ _, h => by unfold plainD at h; cases h
theorem plain_pyL : ∀ (n : Nat) (ds : List D), plainL n ds = true → ∃ ps, pyL ds = some ps ∧ PyData.canLayAll0 ps = true ∧ PyData.depthAll ps ≤ n
  | n, [], _ => ⟨[], by unfold pyL; rfl, by unfold PyData.canLayAll0; rfl, by unfold PyData.depthAll; omega⟩
  | n, d :: ds, h => by
    unfold plainL at h
    obtain ⟨h1, h2⟩ := Bool.and_eq_true_iff.mp h
    obtain ⟨p, e1, c1, d1⟩ := plain_py n d h1
    obtain ⟨ps, e2, c2, d2⟩ := plain_pyL n ds h2
    exact ⟨p :: ps, by unfold pyL; rw [e1, e2], by unfold PyData.canLayAll0; rw [c1, c2]; rfl, by unfold PyData.depthAll; omega⟩
end
theorem okB_plain {n : Nat} {d : D} (h : plainD n d = true) (hn : n ≤ 64 := by decide) : okB d = true := by
  obtain ⟨p, e, c, hd⟩ := plain_py n d h
  unfold okB
  rw [e]
  show (p.canLay0 && decide (p.depth ≤ 64)) = true
  rw [c, decide_eq_true (by omega)]; rfl
theorem eqD_self {n : Nat} {d : D} (h : plainD n d = true) : eqD d d = true := by
  obtain ⟨p, e, c, _⟩ := plain_py n d h
  unfold eqD
  rw [e]
  exact SeqAt.eqv_refl p c
variable [TheW]
theorem neSelf {n : Nat} {d : D} {Q : D → Prop} (h : plainD n d = true) (q : Q (.bl false)) (hn : n ≤ 64 := by decide) : oNe d d Q := neP (okB_plain h hn) (okB_plain h hn) (by rw [eqD_self h]; exact q)
theorem eqD_nil {d : D} {ds : List D} {n : Nat} (h : plainL n (d :: ds) = true) : eqD (.lst (d :: ds)) (.lst []) = false := by
  obtain ⟨ps, e, _, _⟩ := plain_pyL n _ h
  unfold eqD
  have e1 : pyD (.lst (d :: ds)) = some (.list ps) := by unfold pyD; rw [e]; rfl
  have e2 : pyD (.lst []) = some (.list []) := rfl
  rw [e1, e2]
  cases ps with
  | nil =>
    unfold pyL at e
    split at e <;> cases e
  | cons p ps => show PyData.eqv (.list (p :: ps)) (.list []) = false; unfold PyData.eqv PyData.eqvAll; rfl
end Dl
namespace Dl
open PySem PySem.Spec PyProof.Rows L2
def gI (a b : Int) : Int := (Int.gcd a b : Int)
def rat (t b : Int) : Int × Int := if 0 < b then (t / gI t b, b / gI t b) else (-t / gI t b, -b / gI t b)
def pr (p : Int × Int) : D := .tup [.int p.1, .int p.2]
def sh (p : Int × Int) : D := .ins "Share" ["pair"] [pr p]
def bS : Nat := 2 ^ 3900
abbrev Sm (i : Int) : Prop := i.natAbs < bS
theorem gI_pos {t b : Int} (hb : b ≠ 0) : 0 < gI t b := by
  unfold gI
  have : Int.gcd t b ≠ 0 := fun h => hb (Int.gcd_eq_zero_iff.mp h).2
  omega
theorem rat_pos {t b : Int} (hb : b ≠ 0) : 0 < (rat t b).2 := by
  unfold rat
  have g0 := gI_pos (t := t) hb
  have d2 : gI t b ∣ b := by unfold gI; exact Int.gcd_dvd_right ..
  split
  · exact Int.ediv_pos_of_pos_of_dvd (by omega) (by omega) d2
  · exact Int.ediv_pos_of_pos_of_dvd (by omega) (by omega) (Int.dvd_neg.mpr d2)
theorem rat_cop {t b : Int} (hb : b ≠ 0) : Int.gcd (rat t b).1 (rat t b).2 = 1 := by
  have g0 : 0 < Int.gcd t b := Nat.pos_of_ne_zero fun h => hb (Int.gcd_eq_zero_iff.mp h).2
  have d1 : ((Int.gcd t b : Nat) : Int) ∣ t := Int.gcd_dvd_left ..
  have d2 : ((Int.gcd t b : Nat) : Int) ∣ b := Int.gcd_dvd_right ..
  unfold rat gI
  split
  · rw [Int.gcd_ediv_gcd_ediv_gcd g0]
  · rw [Int.neg_ediv_of_dvd d1, Int.neg_ediv_of_dvd d2, Int.neg_gcd, Int.gcd_neg]
    rw [Int.gcd_ediv_gcd_ediv_gcd g0]
theorem rat_id {p : Int × Int} (h0 : 0 < p.2) (h : Int.gcd p.1 p.2 = 1) : rat p.1 p.2 = p := by
  unfold rat gI
  rw [if_pos h0, h]
  simp
def fAdd (p q : Int × Int) : Int × Int := rat (p.1 * q.2 + q.1 * p.2) (p.2 * q.2)
def fSub (p q : Int × Int) : Int × Int := rat (p.1 * q.2 - q.1 * p.2) (p.2 * q.2)
def fMul (p q : Int × Int) : Int × Int := rat (p.1 * q.1) (p.2 * q.2)
def fDiv (p q : Int × Int) : Int × Int := rat (p.1 * q.2) (p.2 * q.1)
structure Fr (p : Int × Int) : Prop where
  pos : 0 < p.2
  cop : Int.gcd p.1 p.2 = 1
theorem Fr.id {p : Int × Int} (h : Fr p) : rat p.1 p.2 = p := rat_id h.pos h.cop
theorem fr_rat {t b : Int} (hb : b ≠ 0) : Fr (rat t b) := ⟨rat_pos hb, rat_cop hb⟩
theorem ne_mul {a b : Int} (h1 : a ≠ 0) (h2 : b ≠ 0) : a * b ≠ 0 := fun h => (Int.mul_eq_zero.mp h).elim h1 h2
end Dl
namespace Dl
open PySem PySem.Spec PyProof.Rows L2
def KeyOk (d : D) : Prop := ∃ x, nkD d = some (.tup x) ∧ (NestedKey.tup x).depth ≤ 8
variable [TheW]
section
variable {X : Cx} {pins : List (Addr × Obj)} {σ : L2.St} {H F : Hp} {ρ : List Addr} {s : Shared} {st : Dst} {n : En}
abbrev Rw := List (NestedKey × Addr × Value)
end
end Dl
namespace Dl
open PySem PySem.Spec PyProof.Rows L2
variable [TheW]
theorem RawE.len : ∀ {es : List DictEntry} {hs : List Int} {ks us : List V}, RawE es hs ks us → es.length = ks.length
  | _, _, _, _, .nil => rfl
  | _, _, _, _, .cons _ _ r => by rw [List.length_cons, List.length_cons, r.len]
theorem RawE.key : ∀ {es : List DictEntry} {hs : List Int} {ks us : List V} {i : Nat} {x : V}, RawE es hs ks us → ks[i]? = some x → ∃ e, es[i]? = some e ∧ RelV x e.key
  | _, _, _, _, i, x, .nil, h => by simp at h
  | _, _, _, _, 0, x, .cons (e := e) rk _ _, h => by
    simp at h; subst h
    exact ⟨e, rfl, rk⟩
  | _, _, _, _, i + 1, x, .cons _ _ r, h => by
    obtain ⟨e, h1, h2⟩ := r.key (i := i) (by simpa using h)
    exact ⟨e, by simpa using h1, h2⟩
end Dl
namespace Dl
open PySem PySem.Spec PyProof.Rows L2
variable [TheW]
theorem RepW.sub {K : PySem.W.Frag} {F F' : Hp} {ρ : List Addr} {w : W} {v : V} (s : SubH F F') (h : RepW K F ρ w v) : RepW K F' ρ w v := by
  cases w with
  | d x => exact Rep.sub s _ _ h
  | loc n => exact h
  | scr xs =>
    obtain ⟨a, e, q⟩ := h
    exact ⟨a, e, SqL.sub s q⟩
end Dl
namespace Dl
open PySem PySem.Spec PyProof.Rows L2
abbrev K3 := Int × Int × Int
mutual
theorem nest_keep {h h' : Heap} (hk : ∀ a o, h.get? a = some o → o.cls = .type "tuple" → h'.get? a = some o) : ∀ (x : NestedKey) (v : Value), NestedIs h x v → NestedIs h' x v
  | .none, _, .none => .none
  | .num _, _, .bool e => .bool e
  | .num _, _, .int i t => .int i t
  | .text _, _, .text x t => .text x t
  | .tup ks, _, .tup h1 h2 h3 h4 => .tup (hk _ _ h1 h2) h2 h3 (nests_keep hk ks _ h4)
theorem nests_keep {h h' : Heap} (hk : ∀ a o, h.get? a = some o → o.cls = .type "tuple" → h'.get? a = some o) : ∀ (xs : List NestedKey) (vs : List Value), NestedAll h xs vs → NestedAll h' xs vs
  | [], _, .nil => .nil
  | x :: xs, _, .cons h1 h2 => .cons (nest_keep hk x _ h1) (nests_keep hk xs _ h2)
end
structure RowAt (h : Heap) (v : Value) (x : K3) (kb : NestedKey) : Prop where
  ex : ∃ (a p b : Addr) (o : Obj) (n : Nat), v = .ref a ∧ h.get? a = some o ∧ o.cls = .type "tuple" ∧ o.data = .seq #[.ref p, .ref b] n ∧
    (∃ (op : Obj) (m : Nat) (t1 t2 t3 : Tok), h.get? p = some op ∧ op.cls = .type "tuple" ∧ op.data = .seq #[.int x.1 t1, .int x.2.1 t2, .int x.2.2 t3] m) ∧ NestedIs h kb (.ref b) ∧ kb.depth ≤ 8
theorem RowAt.keeps {h h' : Heap} {v : Value} {x : K3} {kb : NestedKey} (r : RowAt h v x kb) (k : ∀ b o, h.get? b = some o → o.cls = .type "tuple" → h'.get? b = some o) : RowAt h' v x kb := by
  obtain ⟨a, p, b, o, n, e, ho, hc, hd, ⟨op, m, t1, t2, t3, hp, hpc, hpd⟩, hn, hdp⟩ := r.ex
  exact ⟨a, p, b, o, n, e, k _ _ ho hc, hc, hd, ⟨op, m, t1, t2, t3, k _ _ hp hpc, hpc, hpd⟩, nest_keep k _ _ hn, hdp⟩
theorem RowAt.inj {h : Heap} {v : Value} {x y : K3} {kb kc : NestedKey} (r : RowAt h v x kb) (q : RowAt h v y kc) : x = y ∧ kb = kc := by
  obtain ⟨a, p, b, o, n, rfl, ho, hc, hd, ⟨op, m, t1, t2, t3, hp, hpc, hpd⟩, hn, hdp⟩ := r.ex
  obtain ⟨a', p', b', o', n', e, ho', hc', hd', ⟨op', m', t1', t2', t3', hp', hpc', hpd'⟩, hn', hdp'⟩ := q.ex
  cases e
  rw [ho] at ho'
  cases ho'
  rw [hd] at hd'
  simp only [Data.seq.injEq] at hd'
  obtain ⟨e1, _⟩ := hd'
  simp only [Array.mk.injEq, List.cons.injEq, Value.ref.injEq, and_true] at e1
  obtain ⟨rfl, rfl⟩ := e1
  rw [hp] at hp'
  cases hp'
  rw [hpd] at hpd'
  simp only [Data.seq.injEq] at hpd'
  obtain ⟨e2, _⟩ := hpd'
  simp only [Array.mk.injEq, List.cons.injEq, Value.int.injEq, and_true] at e2
  obtain ⟨⟨z1, _⟩, ⟨z2, _⟩, z3, _⟩ := e2
  refine ⟨?_, NestedIs.inj _ _ _ hn hn'⟩
  obtain ⟨x1, x2, x3⟩ := x
  obtain ⟨y1, y2, y3⟩ := y
  simp only at z1 z2 z3
  rw [z1, z2, z3]
end Dl
namespace Dl
open PySem PySem.Spec PyProof.Rows L2
abbrev Pr := Int × Int
abbrev T3 := Pr × Pr × Pr
abbrev Sm3 := List (T3 × Pr)
def t3 (b : T3) : D := .tup [pr b.1, pr b.2.1, pr b.2.2]
def NdS (l : Sm3) : Prop := (l.map (·.1)).Nodup
def getS (l : Sm3) (b : T3) : Option Pr := (l.find? fun q => decide (q.1 = b)).map (·.2)
def putS (l : Sm3) (b : T3) (p : Pr) : Sm3 := if (getS l b).isSome then l.map (fun q => if q.1 = b then (q.1, p) else q) else l ++ [(b, p)]
theorem getS_iso (l : Sm3) (b : T3) : (getS l b).isSome = decide (b ∈ l.map (·.1)) := by
  unfold getS
  rw [Option.isSome_map]
  cases h : l.find? fun q => decide (q.1 = b) with
  | none =>
    have := List.find?_eq_none.mp h
    simp only [Option.isSome_none]
    refine (decide_eq_false fun hm => ?_).symm
    obtain ⟨q, hq, e⟩ := List.mem_map.mp hm
    exact this q hq (by simp [e])
  | some q =>
    have h1 := List.mem_of_find?_eq_some h
    have h2 := List.find?_some h
    simp only [Option.isSome_some]
    exact (decide_eq_true (List.mem_map.mpr ⟨q, h1, of_decide_eq_true h2⟩)).symm
theorem ndS_put {l : Sm3} {b : T3} {p : Pr} (h : NdS l) : NdS (putS l b p) := by
  unfold putS
  by_cases c : (getS l b).isSome = true
  · rw [if_pos c]
    unfold NdS
    have e : (l.map fun q => if q.1 = b then (q.1, p) else q).map (·.1) = l.map (·.1) := by
      rw [List.map_map]
      refine List.map_congr_left fun q _ => ?_
      show (if q.1 = b then (q.1, p) else q).1 = q.1
      by_cases e : q.1 = b <;> simp [e]
    rw [e]
    exact h
  · rw [if_neg c]
    unfold NdS
    rw [List.map_append]
    rw [getS_iso] at c
    have nb : b ∉ l.map (·.1) := fun z => c (decide_eq_true z)
    exact List.nodup_append.mpr ⟨h, by simp, fun x hx y hy e => nb (by have e2 : x = b := e.trans (List.mem_singleton.mp hy); rw [← e2]; exact hx)⟩
structure FrT (b : T3) : Prop where
  h1 : Fr b.1
  h2 : Fr b.2.1
  h3 : Fr b.2.2
theorem fr_cross {p q : Pr} (hp : Fr p) (hq : Fr q) (h : p.1 * q.2 = q.1 * p.2) : p = q := by
  have d1 : p.2.natAbs ∣ q.2.natAbs := by
    have z : p.2 ∣ p.1 * q.2 := by rw [h]; exact Int.dvd_mul_left _ _
    have z := Int.natAbs_dvd_natAbs.mpr z
    rw [Int.natAbs_mul] at z
    have c : Nat.gcd p.1.natAbs p.2.natAbs = 1 := hp.cop
    exact Nat.Coprime.dvd_of_dvd_mul_left (by rw [Nat.Coprime, Nat.gcd_comm]; exact c) z
  have d2 : q.2.natAbs ∣ p.2.natAbs := by
    have z : q.2 ∣ q.1 * p.2 := by rw [← h]; exact Int.dvd_mul_left _ _
    have z := Int.natAbs_dvd_natAbs.mpr z
    rw [Int.natAbs_mul] at z
    have c : Nat.gcd q.1.natAbs q.2.natAbs = 1 := hq.cop
    exact Nat.Coprime.dvd_of_dvd_mul_left (by rw [Nat.Coprime, Nat.gcd_comm]; exact c) z
  have e : p.2 = q.2 := by
    have := Nat.dvd_antisymm d1 d2
    have h1 := hp.pos
    have h2 := hq.pos
    omega
  have e1 : p.1 = q.1 := by
    rw [e] at h
    exact Int.eq_of_mul_eq_mul_right (Int.ne_of_gt hq.pos) h
  exact Prod.ext e1 e
end Dl
namespace Dl
open PySem PySem.Spec PyProof.Rows L2
def FrS (l : Sm3) : Prop := ∀ q ∈ l, FrT q.1
def addS (l : Sm3) (q : T3 × Pr) : Sm3 := putS l q.1 (fAdd ((getS l q.1).getD (0, 1)) q.2)
def colS (ps : Sm3) : Sm3 := ps.foldl addS []
def nzS (l : Sm3) : Sm3 := l.filter fun q => decide (q.2 ≠ (0, 1))
theorem nd_col : ∀ {ps acc : Sm3}, NdS acc → NdS (ps.foldl addS acc)
  | [], _, h => h
  | q :: ps, _, h => nd_col (ps := ps) (ndS_put h)
theorem ndS_nz {l : Sm3} (h : NdS l) : NdS (nzS l) := by
  unfold NdS at h ⊢
  exact List.Sublist.nodup (List.Sublist.map _ List.filter_sublist) h
end Dl
namespace Dl
open PySem PySem.Spec PyProof.Rows L2
theorem putS_new {l : Sm3} {b : T3} {p : Pr} (h : b ∉ l.map (·.1)) : putS l b p = l ++ [(b, p)] := by
  unfold putS
  rw [if_neg]
  rw [getS_iso]
  simpa using h
def Bd (k : Nat) (p : Pr) : Prop := p.1.natAbs < 2 ^ k ∧ p.2.natAbs < 2 ^ k
theorem Bd.mono {a b : Nat} {p : Pr} (h : Bd a p) (l : a ≤ b) : Bd b p := ⟨Nat.lt_of_lt_of_le h.1 (Nat.pow_le_pow_right (by decide) l), Nat.lt_of_lt_of_le h.2 (Nat.pow_le_pow_right (by decide) l)⟩
theorem Bd.sm {k : Nat} {p : Pr} (h : Bd k p) (l : k ≤ 3900) : Sm p.1 ∧ Sm p.2 :=
  ⟨Nat.lt_of_lt_of_le h.1 (Nat.pow_le_pow_right (by decide) l), Nat.lt_of_lt_of_le h.2 (Nat.pow_le_pow_right (by decide) l)⟩
variable [TheW]
end Dl
namespace Dl
open PySem PySem.Spec PyProof.Rows L2
def qR (p : Pr) : Rat := Rat.divInt p.1 p.2
theorem rat_cross {t b : Int} (hb : b ≠ 0) : (rat t b).1 * b = t * (rat t b).2 := by
  have d1 : gI t b ∣ t := Int.gcd_dvd_left ..
  have d2 : gI t b ∣ b := Int.gcd_dvd_right ..
  have key : ∀ x y g : Int, x * (y * g) = (x * g) * y := fun x y g => by rw [Int.mul_comm y g, ← Int.mul_assoc]
  obtain ⟨x, ex⟩ := d1
  obtain ⟨y, ey⟩ := d2
  have g0 : gI t b ≠ 0 := Int.ne_of_gt (gI_pos hb)
  have q1 : t / gI t b = x := by
    generalize gI t b = g at *
    rw [ex, Int.mul_ediv_cancel_left _ g0]
  have q2 : b / gI t b = y := by
    generalize gI t b = g at *
    rw [ey, Int.mul_ediv_cancel_left _ g0]
  have q3 : -t / gI t b = -x := by rw [Int.neg_ediv_of_dvd ⟨x, ex⟩, q1]
  have q4 : -b / gI t b = -y := by rw [Int.neg_ediv_of_dvd ⟨y, ey⟩, q2]
  have fin : x * b = t * y := by
    generalize gI t b = g at *
    rw [ey, ex, ← Int.mul_assoc, Int.mul_comm x g]
  unfold rat
  split
  · show t / gI t b * b = t * (b / gI t b)
    rw [q1, q2, fin]
  · show -t / gI t b * b = t * (-b / gI t b)
    rw [q3, q4, Int.neg_mul, Int.mul_neg, fin]
theorem qR_rat {t b : Int} (hb : b ≠ 0) : qR (rat t b) = Rat.divInt t b := by
  unfold qR
  rw [Rat.divInt_eq_divInt_iff (Int.ne_of_gt (rat_pos hb)) hb]
  exact rat_cross hb
theorem qR_inj {p q : Pr} (hp : Fr p) (hq : Fr q) (h : qR p = qR q) : p = q :=
  fr_cross hp hq ((Rat.divInt_eq_divInt_iff (Int.ne_of_gt hp.pos) (Int.ne_of_gt hq.pos)).mp h)
theorem qR_add {p q : Pr} (h1 : p.2 ≠ 0) (h2 : q.2 ≠ 0) : qR (fAdd p q) = qR p + qR q := by
  unfold fAdd
  rw [qR_rat (ne_mul h1 h2)]
  unfold qR
  rw [Rat.divInt_add_divInt _ _ h1 h2]
theorem qR_sub {p q : Pr} (h1 : p.2 ≠ 0) (h2 : q.2 ≠ 0) : qR (fSub p q) = qR p - qR q := by
  unfold fSub
  rw [qR_rat (ne_mul h1 h2)]
  unfold qR
  rw [Rat.divInt_sub_divInt _ _ h1 h2]
theorem qR_mul {p q : Pr} (h1 : p.2 ≠ 0) (h2 : q.2 ≠ 0) : qR (fMul p q) = qR p * qR q := by
  unfold fMul
  rw [qR_rat (ne_mul h1 h2)]
  unfold qR
  rw [Rat.divInt_mul_divInt]
theorem qR_zero : qR (0, 1) = 0 := by decide +kernel
theorem qR_eq0 {p : Pr} (h : Fr p) (e : qR p = 0) : p = (0, 1) := qR_inj h ⟨by decide, by decide⟩ (e.trans qR_zero.symm)
theorem qR_ne0 {p : Pr} (h : Fr p) (e : p ≠ (0, 1)) : qR p ≠ 0 := fun z => e (qR_eq0 h z)
theorem fr_add {p q : Pr} (h1 : p.2 ≠ 0) (h2 : q.2 ≠ 0) : Fr (fAdd p q) := fr_rat (ne_mul h1 h2)
theorem Fr.ne {p : Pr} (h : Fr p) : p.2 ≠ 0 := Int.ne_of_gt h.pos
def lin (φ : T3 → Rat) : Sm3 → Rat
  | [] => 0
  | q :: l => qR q.2 * φ q.1 + lin φ l
theorem lin_app (φ : T3 → Rat) : ∀ a b : Sm3, lin φ (a ++ b) = lin φ a + lin φ b
  | [], b => by show lin φ b = 0 + lin φ b; grind
  | q :: a, b => by
    show qR q.2 * φ q.1 + lin φ (a ++ b) = qR q.2 * φ q.1 + lin φ a + lin φ b
    rw [lin_app φ a b]; grind
theorem lin_same {φ : T3 → Rat} {b : T3} {p : Pr} : ∀ {l : Sm3}, b ∉ l.map (·.1) → lin φ (l.map fun q => if q.1 = b then (q.1, p) else q) = lin φ l
  | [], _ => rfl
  | q :: l, h => by
    have h1 : q.1 ≠ b := fun e => h (by rw [← e]; exact List.mem_cons_self)
    rw [List.map_cons, if_neg h1]
    show _ + _ = _ + _
    rw [lin_same (l := l) fun z => h (List.mem_cons_of_mem _ z)]
theorem lin_map {φ : T3 → Rat} {b : T3} {p v : Pr} : ∀ {l : Sm3}, NdS l → getS l b = some v → lin φ (l.map fun q => if q.1 = b then (q.1, p) else q) = lin φ l + (qR p - qR v) * φ b
  | [], _, h => by cases h
  | q :: l, nd, h => by
    obtain ⟨n1, n2⟩ := List.nodup_cons.mp (show (q.1 :: l.map (·.1)).Nodup from nd)
    unfold getS at h
    by_cases e : q.1 = b
    · rw [List.find?_cons_of_pos (by simp [e])] at h
      have h : q.2 = v := by simpa using h
      rw [List.map_cons, if_pos e]
      show qR p * φ q.1 + _ = qR q.2 * φ q.1 + lin φ l + _
      rw [lin_same (by rw [← e]; exact n1), e, h]; grind
    · rw [List.find?_cons_of_neg (by simp [e])] at h
      rw [List.map_cons, if_neg e]
      show qR q.2 * φ q.1 + _ = qR q.2 * φ q.1 + lin φ l + _
      rw [lin_map (l := l) n2 h]; grind
theorem lin_put {φ : T3 → Rat} {l : Sm3} {b : T3} {p : Pr} (nd : NdS l) : lin φ (putS l b p) = lin φ l + (qR p - qR ((getS l b).getD (0, 1))) * φ b := by
  unfold putS
  cases e : getS l b with
  | none =>
    rw [if_neg (by simp), lin_app]
    show lin φ l + (qR p * φ b + 0) = _ + (qR p - qR (0, 1)) * φ b
    rw [qR_zero]; grind
  | some v =>
    rw [if_pos (by simp)]
    exact lin_map nd e
theorem lin_add {φ : T3 → Rat} {l : Sm3} {q : T3 × Pr} (nd : NdS l) (h1 : ((getS l q.1).getD (0, 1)).2 ≠ 0) (h2 : q.2.2 ≠ 0) : lin φ (addS l q) = lin φ l + qR q.2 * φ q.1 := by
  unfold addS
  rw [lin_put nd, qR_add h1 h2]; grind
def NzB (l : Sm3) : Prop := ∀ q ∈ l, q.2.2 ≠ 0
theorem getS_in {l : Sm3} {b : T3} {p : Pr} (h : getS l b = some p) : (b, p) ∈ l := by
  unfold getS at h
  obtain ⟨q, hq, rfl⟩ := Option.map_eq_some_iff.mp h
  have h1 := List.mem_of_find?_eq_some hq
  have h2 := List.find?_some hq
  have e : q.1 = b := of_decide_eq_true h2
  rw [← e]
  exact h1
theorem nzb_get {l : Sm3} (h : NzB l) (b : T3) : ((getS l b).getD (0, 1)).2 ≠ 0 := by
  cases e : getS l b with
  | none => simp
  | some p => exact h _ (getS_in e)
theorem mem_put {l : Sm3} {b : T3} {p : Pr} {q : T3 × Pr} (h : q ∈ putS l b p) : q ∈ l ∨ q = (b, p) := by
  unfold putS at h
  split at h
  · obtain ⟨x, hx, rfl⟩ := List.mem_map.mp h
    by_cases e : x.1 = b
    · rw [if_pos e]; exact .inr (by rw [e])
    · rw [if_neg e]; exact .inl hx
  · rcases List.mem_append.mp h with z | z
    · exact .inl z
    · exact .inr (List.mem_singleton.mp z)
theorem nzb_add {l : Sm3} {q : T3 × Pr} (h : NzB l) (hq : q.2.2 ≠ 0) : NzB (addS l q) := fun x hx => by
  rcases mem_put hx with z | rfl
  · exact h x z
  · exact (fr_add (nzb_get h q.1) hq).ne
theorem lin_fold {φ : T3 → Rat} : ∀ (ps acc : Sm3), NdS acc → NzB acc → NzB ps → lin φ (ps.foldl addS acc) = lin φ acc + lin φ ps
  | [], acc, _, _, _ => by show lin φ acc = lin φ acc + 0; grind
  | q :: ps, acc, nd, h, hp => by
    have hq := hp q List.mem_cons_self
    rw [List.foldl_cons, lin_fold ps (addS acc q) (ndS_put nd) (nzb_add h hq) fun x hx => hp x (List.mem_cons_of_mem _ hx), lin_add nd (nzb_get h q.1) hq]
    show _ = lin φ acc + (qR q.2 * φ q.1 + lin φ ps)
    grind
theorem lin_col {φ : T3 → Rat} {ps : Sm3} (h : NzB ps) : lin φ (colS ps) = lin φ ps := by
  unfold colS
  rw [lin_fold ps [] List.Pairwise.nil (fun _ h => nomatch h) h]
  show 0 + _ = _
  grind
theorem lin_nz {φ : T3 → Rat} : ∀ l : Sm3, lin φ (nzS l) = lin φ l
  | [] => rfl
  | q :: l => by
    unfold nzS
    by_cases h : q.2 = (0, 1)
    · rw [List.filter_cons_of_neg (by simp [h])]
      show lin φ (nzS l) = qR q.2 * φ q.1 + lin φ l
      rw [lin_nz l, h, qR_zero]; grind
    · rw [List.filter_cons_of_pos (by simp [h])]
      show qR q.2 * φ q.1 + lin φ (nzS l) = qR q.2 * φ q.1 + lin φ l
      rw [lin_nz l]
theorem lin_cn {φ : T3 → Rat} {ps : Sm3} (h : NzB ps) : lin φ (nzS (colS ps)) = lin φ ps := by rw [lin_nz, lin_col h]
structure Can (l : Sm3) : Prop where
  nd : NdS l
  fr : ∀ q ∈ l, Fr q.2
  nz : ∀ q ∈ l, q.2 ≠ (0, 1)
theorem Can.nzb {l : Sm3} (h : Can l) : NzB l := fun q hq => (h.fr q hq).ne
theorem fr_fold : ∀ (ps acc : Sm3), NzB acc → (∀ q ∈ acc, Fr q.2) → NzB ps → ∀ q ∈ ps.foldl addS acc, Fr q.2
  | [], _, _, h, _ => h
  | q :: ps, acc, nz, h, hp => fr_fold ps (addS acc q) (nzb_add nz (hp q List.mem_cons_self)) (fun x hx => by
      rcases mem_put hx with z | rfl
      · exact h x z
      · exact fr_add (nzb_get nz q.1) (hp q List.mem_cons_self)) fun x hx => hp x (List.mem_cons_of_mem _ hx)
theorem can_cn {ps : Sm3} (h : NzB ps) : Can (nzS (colS ps)) :=
  ⟨ndS_nz (nd_col List.Pairwise.nil), fun q hq => fr_fold ps [] (fun _ h => nomatch h) (fun _ h => nomatch h) h q (List.mem_filter.mp hq).1, fun q hq => of_decide_eq_true (List.mem_filter.mp hq).2⟩
theorem Can.nodup {l : Sm3} (h : Can l) : l.Nodup := (List.pairwise_map.mp h.nd).imp fun z e => z (by rw [e])
def mono (n m k : Nat) (b : T3) : Rat := qR b.1 ^ n * qR b.2.1 ^ m * qR b.2.2 ^ k
end Dl
namespace Dl
open PySem PySem.Spec PyProof.Rows L2
theorem obsE_eq {n : Nat} {fa : List He.Fa} {fn : List He.DefD} {ps : List PrF} {tf : List He.Defn} {ex : PySem.W.Frag → Bool} {g : Addr → Option Obj} {s : Shared} (h : ∀ a, g a = s.heap.get? a) : obsE n fa fn ps tf ex g = (hookE n fa fn ps tf ex).obs s := by
  have e : g = s.heap.get? := funext h
  rw [e]
  rfl
end Dl
namespace Dl
open PySem PySem.Spec PyProof.Rows L2
structure Nb (d B : Nat) (p : Pr) : Prop where
  fr : Fr p
  dv : p.2 ∣ (d : Int)
  nb : p.1.natAbs ≤ B * p.2.natAbs
theorem den_dvd {r : Pr} {D m : Int} (h : Fr r) (e : r.1 * D = m * r.2) : r.2 ∣ D := by
  have z : r.2 ∣ r.1 * D := by rw [e]; exact Int.dvd_mul_left _ _
  have z := Int.natAbs_dvd_natAbs.mpr z
  rw [Int.natAbs_mul] at z
  have c : Nat.gcd r.1.natAbs r.2.natAbs = 1 := h.cop
  have := Nat.Coprime.dvd_of_dvd_mul_left (by rw [Nat.Coprime, Nat.gcd_comm]; exact c) z
  exact Int.natAbs_dvd_natAbs.mp this
theorem Nb.mono {d B C : Nat} {p : Pr} (h : Nb d B p) (l : B ≤ C) : Nb d C p := ⟨h.fr, h.dv, Nat.le_trans h.nb (Nat.mul_le_mul_right _ l)⟩
theorem Nb.den {d e B : Nat} {p : Pr} (h : Nb d B p) (l : d ∣ e) : Nb e B p := ⟨h.fr, Int.dvd_trans h.dv (Int.natCast_dvd_natCast.mpr l), h.nb⟩
theorem nb_cross {t b : Int} {B : Nat} (hb : b ≠ 0) (h : t.natAbs ≤ B * b.natAbs) : (rat t b).1.natAbs ≤ B * (rat t b).2.natAbs := by
  have e := congrArg Int.natAbs (rat_cross (t := t) hb)
  rw [Int.natAbs_mul, Int.natAbs_mul] at e
  have p : 0 < b.natAbs := by omega
  refine Nat.le_of_mul_le_mul_right (c := b.natAbs) ?_ p
  rw [e, Nat.mul_right_comm]
  exact Nat.mul_le_mul_right _ h
theorem nb_rat {t b : Int} {d B : Nat} {m : Int} (hb : b ≠ 0) (h : t.natAbs ≤ B * b.natAbs) (e : t * d = m * b) : Nb d B (rat t b) := by
  refine ⟨fr_rat hb, ?_, nb_cross hb h⟩
  refine den_dvd (m := m) (fr_rat hb) ?_
  have c := rat_cross (t := t) hb
  refine Int.eq_of_mul_eq_mul_right hb ?_
  calc (rat t b).1 * d * b = ((rat t b).1 * b) * d := Int.mul_right_comm _ _ _
    _ = (t * d) * (rat t b).2 := by rw [c, Int.mul_right_comm]
    _ = m * (rat t b).2 * b := by rw [e, Int.mul_right_comm]
theorem nb_add {d B C : Nat} {p q : Pr} (hp : Nb d B p) (hq : Nb d C q) : Nb d (B + C) (fAdd p q) := by
  obtain ⟨u, eu⟩ := hp.dv
  obtain ⟨v, ev⟩ := hq.dv
  refine nb_rat (m := p.1 * u + q.1 * v) (ne_mul hp.fr.ne hq.fr.ne) ?_ ?_
  · refine Nat.le_trans (Int.natAbs_add_le _ _) ?_
    rw [Int.natAbs_mul, Int.natAbs_mul, Int.natAbs_mul, Nat.add_mul]
    refine Nat.add_le_add ?_ ?_
    · rw [← Nat.mul_assoc]; exact Nat.mul_le_mul_right _ hp.nb
    · rw [Nat.mul_comm p.2.natAbs, ← Nat.mul_assoc]; exact Nat.mul_le_mul_right _ hq.nb
  · have e1 : p.1 * q.2 * (d : Int) = p.1 * u * (p.2 * q.2) := by rw [eu]; simp only [Int.mul_assoc, Int.mul_comm, Int.mul_left_comm]
    have e2 : q.1 * p.2 * (d : Int) = q.1 * v * (p.2 * q.2) := by rw [ev]; simp only [Int.mul_assoc, Int.mul_comm, Int.mul_left_comm]
    rw [Int.add_mul, e1, e2, ← Int.add_mul]
theorem nb_sub {d B C : Nat} {p q : Pr} (hp : Nb d B p) (hq : Nb d C q) : Nb d (B + C) (fSub p q) := by
  obtain ⟨u, eu⟩ := hp.dv
  obtain ⟨v, ev⟩ := hq.dv
  refine nb_rat (m := p.1 * u - q.1 * v) (ne_mul hp.fr.ne hq.fr.ne) ?_ ?_
  · refine Nat.le_trans (Int.natAbs_sub_le _ _) ?_
    rw [Int.natAbs_mul, Int.natAbs_mul, Int.natAbs_mul, Nat.add_mul]
    refine Nat.add_le_add ?_ ?_
    · rw [← Nat.mul_assoc]; exact Nat.mul_le_mul_right _ hp.nb
    · rw [Nat.mul_comm p.2.natAbs, ← Nat.mul_assoc]; exact Nat.mul_le_mul_right _ hq.nb
  · have e1 : p.1 * q.2 * (d : Int) = p.1 * u * (p.2 * q.2) := by rw [eu]; simp only [Int.mul_assoc, Int.mul_comm, Int.mul_left_comm]
    have e2 : q.1 * p.2 * (d : Int) = q.1 * v * (p.2 * q.2) := by rw [ev]; simp only [Int.mul_assoc, Int.mul_comm, Int.mul_left_comm]
    rw [Int.sub_mul, e1, e2, ← Int.sub_mul]
theorem nb_mul {d e B C : Nat} {p q : Pr} (hp : Nb d B p) (hq : Nb e C q) : Nb (d * e) (B * C) (fMul p q) := by
  obtain ⟨u, eu⟩ := hp.dv
  obtain ⟨v, ev⟩ := hq.dv
  refine nb_rat (m := p.1 * u * (q.1 * v)) (ne_mul hp.fr.ne hq.fr.ne) ?_ ?_
  · rw [Int.natAbs_mul, Int.natAbs_mul]
    refine Nat.le_trans (Nat.mul_le_mul hp.nb hq.nb) (Nat.le_of_eq ?_)
    simp only [Nat.mul_assoc, Nat.mul_comm, Nat.mul_left_comm]
  · rw [Int.natCast_mul, eu, ev]; simp only [Int.mul_assoc, Int.mul_comm, Int.mul_left_comm]
theorem nb_zero (d : Nat) : Nb d 0 (0, 1) := ⟨⟨by decide, by decide⟩, Int.one_dvd _, by decide⟩
theorem Nb.bd {d B k : Nat} {p : Pr} (h : Nb d B p) (hd : 0 < d) (h1 : d < 2 ^ k) (h2 : B * d < 2 ^ k) : Bd k p := by
  have l : p.2.natAbs ≤ d := by
    have := Int.natAbs_dvd_natAbs.mpr h.dv
    exact Nat.le_of_dvd hd this
  exact ⟨Nat.lt_of_le_of_lt (Nat.le_trans h.nb (Nat.mul_le_mul_left _ l)) h2, Nat.lt_of_le_of_lt l h1⟩
theorem nb_fold {d B : Nat} : ∀ (ps acc : Sm3) (i : Nat), (∀ q ∈ acc, Nb d (B * i) q.2) → (∀ q ∈ ps, Nb d B q.2) → ∀ q ∈ ps.foldl addS acc, Nb d (B * (i + ps.length)) q.2
  | [], _, i, h, _ => h
  | q :: ps, acc, i, h, hp => by
    have e : i + (q :: ps).length = (i + 1) + ps.length := by rw [List.length_cons]; omega
    rw [e]
    refine nb_fold ps (addS acc q) (i + 1) (fun x hx => ?_) fun x hx => hp x (List.mem_cons_of_mem _ hx)
    rw [Nat.mul_succ]
    rcases mem_put hx with z | rfl
    · exact (h x z).mono (by omega)
    · refine nb_add ?_ (hp q List.mem_cons_self)
      cases g : getS acc q.1 with
      | none => exact (nb_zero d).mono (Nat.zero_le _)
      | some p => exact h _ (getS_in g)
theorem key_fold {P : T3 → Prop} : ∀ (ps acc : Sm3), (∀ q ∈ acc, P q.1) → (∀ q ∈ ps, P q.1) → ∀ q ∈ ps.foldl addS acc, P q.1
  | [], _, h, _ => h
  | q :: ps, acc, h, hp => key_fold ps (addS acc q) (fun x hx => by
      rcases mem_put hx with z | rfl
      · exact h x z
      · exact hp q List.mem_cons_self) fun x hx => hp x (List.mem_cons_of_mem _ hx)
theorem key_cn {P : T3 → Prop} {ps : Sm3} (h : ∀ q ∈ ps, P q.1) : ∀ q ∈ nzS (colS ps), P q.1 := fun q hq => key_fold ps [] (fun _ h => nomatch h) h q (List.mem_filter.mp hq).1
theorem len_fold : ∀ (ps acc : Sm3), (ps.foldl addS acc).length ≤ acc.length + ps.length
  | [], acc => Nat.le_refl _
  | q :: ps, acc => by
    have h := len_fold ps (addS acc q)
    have h2 : (addS acc q).length ≤ acc.length + 1 := by
      unfold addS putS
      split <;> simp
    rw [List.foldl_cons, List.length_cons]
    omega
theorem len_cn (ps : Sm3) : (nzS (colS ps)).length ≤ ps.length := by
  have h := len_fold ps []
  have h2 : (nzS (colS ps)).length ≤ (colS ps).length := List.length_filter_le _ _
  unfold colS at h2
  simp only [List.length_nil, Nat.zero_add] at h
  exact Nat.le_trans h2 h
structure Nt (e C : Nat) (b : T3) : Prop where
  h1 : Nb e C b.1 ∧ 0 ≤ b.1.1
  h2 : Nb e C b.2.1 ∧ 0 ≤ b.2.1.1
  h3 : Nb e C b.2.2 ∧ 0 ≤ b.2.2.1
theorem Nt.fr {e C : Nat} {b : T3} (h : Nt e C b) : FrT b := ⟨h.h1.1.fr, h.h2.1.fr, h.h3.1.fr⟩
theorem Nt.mono {e C C' : Nat} {b : T3} (h : Nt e C b) (l : C ≤ C') : Nt e C' b := ⟨⟨h.h1.1.mono l, h.h1.2⟩, ⟨h.h2.1.mono l, h.h2.2⟩, ⟨h.h3.1.mono l, h.h3.2⟩⟩
theorem Nt.den {e e' C : Nat} {b : T3} (h : Nt e C b) (l : e ∣ e') : Nt e' C b := ⟨⟨h.h1.1.den l, h.h1.2⟩, ⟨h.h2.1.den l, h.h2.2⟩, ⟨h.h3.1.den l, h.h3.2⟩⟩
structure Sw (m d B e C : Nat) (A : Sm3) : Prop where
  can : Can A
  sh : ∀ q ∈ A, Nb d B q.2
  tb : ∀ q ∈ A, Nt e C q.1
  len : A.length ≤ m
structure Trw (m d B e C : Nat) (A : Sm3) : Prop where
  sh : ∀ q ∈ A, Nb d B q.2
  tb : ∀ q ∈ A, Nt e C q.1
  len : A.length ≤ m
theorem Sw.mono {m m' d d' B B' e e' C C' : Nat} {A : Sm3} (h : Sw m d B e C A) (hm : m ≤ m') (hd : d ∣ d') (hB : B ≤ B') (he : e ∣ e') (hC : C ≤ C') : Sw m' d' B' e' C' A :=
  ⟨h.can, fun q hq => ((h.sh q hq).den hd).mono hB, fun q hq => ((h.tb q hq).den he).mono hC, Nat.le_trans h.len hm⟩
theorem Trw.mono {m m' d d' B B' e e' C C' : Nat} {A : Sm3} (h : Trw m d B e C A) (hm : m ≤ m') (hd : d ∣ d') (hB : B ≤ B') (he : e ∣ e') (hC : C ≤ C') : Trw m' d' B' e' C' A :=
  ⟨fun q hq => ((h.sh q hq).den hd).mono hB, fun q hq => ((h.tb q hq).den he).mono hC, Nat.le_trans h.len hm⟩
theorem Trw.nzb {m d B e C : Nat} {A : Sm3} (h : Trw m d B e C A) : NzB A := fun q hq => (h.sh q hq).fr.ne
theorem Sw.trw {m d B e C : Nat} {A : Sm3} (h : Sw m d B e C A) : Trw m d B e C A := ⟨h.sh, h.tb, h.len⟩
theorem Trw.app {m m' d B B' e C C' : Nat} {a b : Sm3} (h : Trw m d B e C a) (g : Trw m' d B' e C' b) : Trw (m + m') d (max B B') e (max C C') (a ++ b) :=
  ⟨fun q hq => (List.mem_append.mp hq).elim (fun z => (h.sh q z).mono (Nat.le_max_left _ _)) fun z => (g.sh q z).mono (Nat.le_max_right _ _),
   fun q hq => (List.mem_append.mp hq).elim (fun z => (h.tb q z).mono (Nat.le_max_left _ _)) fun z => (g.tb q z).mono (Nat.le_max_right _ _), by rw [List.length_append]; exact Nat.add_le_add h.len g.len⟩
end Dl
namespace Dl
open PySem PySem.Spec PyProof.Rows L2
variable [TheW]
structure Row where
  t : Addr
  b : Addr
  u : Value
inductive RowsOk (X : Cx) (F : Hp) (s : Shared) : List (D × D) → List Row → List Value → Prop
  | nil : RowsOk X F s [] [] []
  | cons {p : D × D} {r : Row} {ps rs its} {v : V} : s.heap.IsTuple r.t #[.ref r.b, r.u] → Rep X.K F p.1 (.ref r.b) → Rep X.K F p.2 v → RelV v r.u → RowsOk X F s ps rs its → RowsOk X F s (p :: ps) (r :: rs) (.ref r.t :: its)
section
variable {X : Cx} {pins : List (Addr × Obj)} {s : Shared} {σ : L2.St} {H F : Hp}
theorem RowsOk.len {ps : List (D × D)} {rs : List Row} {its : List Value} (h : RowsOk X F s ps rs its) : ps.length = rs.length ∧ its.length = rs.length := by
  induction h with
  | nil => exact ⟨rfl, rfl⟩
  | cons _ _ _ _ _ ih => exact ⟨by simp [ih.1], by simp [ih.2]⟩
end
end Dl
namespace Dl
open PySem PySem.Spec PyProof.Rows L2
variable [TheW]
structure elsP (c : Str) (sp : DSp) (x y : D) : Prop where
  o1 : ∃ ks vs, x = .ins c ks vs
  o2 : ∃ ks vs, y = .ins c ks vs
  go : ∀ (st : Dst) (Q : DQ), Q (.d (.bl true)) st → wFn sp [.d x, .d y] st Q (fun _ _ => False)
inductive AllEl (c : Str) (sp : DSp) : List D → List D → Prop
  | nil : AllEl c sp [] []
  | cons {x y : D} {xs ys : List D} : elsP c sp x y → AllEl c sp xs ys → AllEl c sp (x :: xs) (y :: ys)
theorem AllEl.len {c : Str} {sp : DSp} {xs ys : List D} (h : AllEl c sp xs ys) : xs.length = ys.length := by
  induction h with
  | nil => rfl
  | cons _ _ ih => simp [ih]
theorem AllEl.get {c : Str} {sp : DSp} {xs ys : List D} (h : AllEl c sp xs ys) : ∀ {i : Nat} {x y : D}, xs[i]? = some x → ys[i]? = some y → elsP c sp x y := by
  induction h with
  | nil => intro i x y e; simp at e
  | cons a _ ih =>
    intro i x y e1 e2
    cases i with
    | zero => simp at e1 e2; subst e1 e2; exact a
    | succ i => simp at e1 e2; exact ih e1 e2
end Dl
namespace Dl
open PySem PySem.Spec PyProof.Rows L2
def KyS (d : D) : Prop := ∃ x, d = .str x
def sOf : D → Str
  | .str x => mkS x
  | _ => mkS []
variable [TheW]
end Dl
namespace Dl
open PySem PySem.Spec PyProof.Rows L2
variable [TheW]
def srtT (ys : List (List Nat)) : Prop := sortedS (ys.map mkS) = true
end Dl
namespace Dl
open PySem PySem.Spec PyProof.Rows L2
variable [TheW]
def NkOk (d : D) : Prop := ∃ k, nkD d = some k ∧ k.depth ≤ 8
theorem NkOk.of {d : D} (h : KeyOk d) : NkOk d := by obtain ⟨x, e, g⟩ := h; exact ⟨_, e, g⟩
theorem NkOk.str (x : List Nat) : NkOk (.str x) := ⟨.text (mkS x), rfl, by unfold NestedKey.depth; decide⟩
end Dl
namespace Dl
open PySem PySem.Spec PyProof.Rows L2
variable [TheW]
abbrev Fm := List (List Nat × Sm3)
def NdF (R : Fm) : Prop := (R.map (·.1)).Nodup
def getF (R : Fm) (d : List Nat) : Option Sm3 := (R.find? fun r => decide (r.1 = d)).map (·.2)
def putF (R : Fm) (d : List Nat) (A : Sm3) : Fm := if (getF R d).isSome then R.map (fun r => if r.1 = d then (r.1, A) else r) else R ++ [(d, A)]
theorem getF_iso (R : Fm) (d : List Nat) : (getF R d).isSome = decide (d ∈ R.map (·.1)) := by
  unfold getF
  rw [Option.isSome_map]
  cases h : R.find? fun r => decide (r.1 = d) with
  | none =>
    have := List.find?_eq_none.mp h
    simp only [Option.isSome_none]
    refine (decide_eq_false fun hm => ?_).symm
    obtain ⟨q, hq, e⟩ := List.mem_map.mp hm
    exact this q hq (by simp [e])
  | some q =>
    have h1 := List.mem_of_find?_eq_some h
    have h2 := List.find?_some h
    simp only [Option.isSome_some]
    exact (decide_eq_true (List.mem_map.mpr ⟨q, h1, of_decide_eq_true h2⟩)).symm
theorem ndF_put {R : Fm} {d : List Nat} {A : Sm3} (h : NdF R) : NdF (putF R d A) := by
  unfold putF
  by_cases c : (getF R d).isSome = true
  · rw [if_pos c]
    unfold NdF
    have e : (R.map fun r => if r.1 = d then (r.1, A) else r).map (·.1) = R.map (·.1) := by
      rw [List.map_map]
      refine List.map_congr_left fun q _ => ?_
      show (if q.1 = d then (q.1, A) else q).1 = q.1
      by_cases e : q.1 = d <;> simp [e]
    rw [e]
    exact h
  · rw [if_neg c]
    unfold NdF
    rw [List.map_append]
    rw [getF_iso] at c
    have nb : d ∉ R.map (·.1) := fun z => c (decide_eq_true z)
    exact List.nodup_append.mpr ⟨h, by simp, fun x hx y hy e => nb (by have e2 : x = d := e.trans (List.mem_singleton.mp hy); rw [← e2]; exact hx)⟩
theorem getF_mem {R : Fm} (nd : NdF R) {r : List Nat × Sm3} (h : r ∈ R) : getF R r.1 = some r.2 := by
  unfold getF
  induction R with
  | nil => cases h
  | cons x R ih =>
    unfold NdF at nd
    rw [List.map_cons, List.nodup_cons] at nd
    rcases List.mem_cons.mp h with rfl | h
    · rw [List.find?_cons_of_pos (by simp)]; rfl
    · have : x.1 ≠ r.1 := fun e => nd.1 (by rw [e]; exact List.mem_map.mpr ⟨r, h, rfl⟩)
      rw [List.find?_cons_of_neg (by simp [this])]
      exact ih nd.2 h
theorem getF_some {R : Fm} {d : List Nat} {A : Sm3} (h : getF R d = some A) : (d, A) ∈ R := by
  unfold getF at h
  obtain ⟨r, e, rfl⟩ := Option.map_eq_some_iff.mp h
  have h1 := List.mem_of_find?_eq_some e
  have h2 : r.1 = d := of_decide_eq_true (List.find?_some (p := fun r : List Nat × Sm3 => decide (r.1 = d)) e)
  rw [← h2]; exact h1
theorem memF_put {R : Fm} {d : List Nat} {A : Sm3} {r : List Nat × Sm3} (h : r ∈ putF R d A) : r ∈ R ∨ r = (d, A) := by
  unfold putF at h
  split at h
  · obtain ⟨x, hx, rfl⟩ := List.mem_map.mp h
    by_cases e : x.1 = d
    · right; simp [e]
    · left; simpa [e] using hx
  · rcases List.mem_append.mp h with h | h
    · exact .inl h
    · exact .inr (List.mem_singleton.mp h)
theorem len_put (R : Fm) (d : List Nat) (A : Sm3) : (putF R d A).length ≤ R.length + 1 := by
  unfold putF
  split <;> simp
def stF (R : Fm) (e : List Nat × Sm3) : Fm := putF R e.1 (nzS (colS ((getF R e.1).getD [] ++ e.2)))
def selE (E : Fm) (d : List Nat) : Sm3 := (E.filter fun e => decide (e.1 = d)).flatMap (·.2)
structure KeyB (b : T3) : Prop where
  f : FrT b
  b1 : Bd 2 b.1
  b2 : Bd 2 b.2.1
  b3 : Bd 2 b.2.2
  n1 : 0 ≤ b.1.1
  n2 : 0 ≤ b.2.1.1
  n3 : 0 ≤ b.2.2.1
structure RwO (dn B L : Nat) (A : Sm3) : Prop where
  can : Can A
  key : ∀ q ∈ A, KeyB q.1
  nb : ∀ q ∈ A, Nb dn B q.2
  len : A.length ≤ L
theorem RwO.mono {dn B C L M : Nat} {A : Sm3} (h : RwO dn B L A) (hB : B ≤ C) (hL : L ≤ M) : RwO dn C M A := ⟨h.can, h.key, fun q hq => (h.nb q hq).mono hB, Nat.le_trans h.len hL⟩
theorem rwO_nil (dn B L : Nat) : RwO dn B L [] := ⟨⟨List.Pairwise.nil, (fun _ h => nomatch h), (fun _ h => nomatch h)⟩, (fun _ h => nomatch h), (fun _ h => nomatch h), Nat.zero_le _⟩
structure FSt (dn B c i : Nat) (E R : Fm) : Prop where
  nd : NdF R
  rw : ∀ r ∈ R, RwO dn (B * (c * i + 1) ^ i) (c * i) r.2
  ln : ∀ d φ, lin φ ((getF R d).getD []) = lin φ (selE E d)
  len : R.length ≤ i
  src : ∀ r ∈ R, r.1 ∈ E.map (·.1)
theorem FSt.get {dn B c i : Nat} {E R : Fm} (h : FSt dn B c i E R) (d : List Nat) : RwO dn (B * (c * i + 1) ^ i) (c * i) ((getF R d).getD []) := by
  cases g : getF R d with
  | none => exact rwO_nil _ _ _
  | some A => exact h.rw _ (getF_some g)
end Dl
namespace Dl
open PySem PySem.Spec PyProof.Rows L2
variable [TheW]
structure OrF (R S : Fm) : Prop where
  pm : S.Perm R
  so : srtT (S.map (·.1))
theorem OrF.nd {R S : Fm} (h : OrF R S) (nd : NdF R) : NdF S := (h.pm.map _).nodup_iff.mpr nd
end Dl
namespace Dl
open PySem PySem.Spec PyProof.Rows L2
variable [TheW]
inductive Snap (μ : List O) : List (Option W) → List (Option W) → Prop where
  | nil : Snap μ [] []
  | no {a : Option W} {δ δ' : List (Option W)} (h : Snap μ δ δ') : Snap μ (a :: δ) (none :: δ')
  | da {d : D} {δ δ' : List (Option W)} (h : Snap μ δ δ') : Snap μ (some (.d d) :: δ) (some (.d d) :: δ')
  | lo {j : Nat} {xs : List D} {δ δ' : List (Option W)} (e : μ[j]? = some (.lst xs)) (h : Snap μ δ δ') : Snap μ (some (.loc j) :: δ) (some (.d (.lst xs)) :: δ')
theorem Snap.len {μ : List O} : ∀ {δ δ' : List (Option W)}, Snap μ δ δ' → δ'.length = δ.length
  | _, _, .nil => rfl
  | _, _, .no h => by rw [List.length_cons, List.length_cons, h.len]
  | _, _, .da h => by rw [List.length_cons, List.length_cons, h.len]
  | _, _, .lo _ h => by rw [List.length_cons, List.length_cons, h.len]
theorem Snap.at {μ : List O} : ∀ {δ δ' : List (Option W)}, Snap μ δ δ' → ∀ (i : Nat) (w : W), δ'[i]? = some (some w) → (∃ d, w = .d d ∧ δ[i]? = some (some (.d d))) ∨ ∃ j xs, δ[i]? = some (some (.loc j)) ∧ μ[j]? = some (.lst xs) ∧ w = .d (.lst xs)
  | _, _, .nil, i, w, e => by cases i <;> cases e
  | _, _, .no h, 0, w, e => by cases e
  | _, _, .no h, i + 1, w, e => h.at i w e
  | _, _, .da (d := d) h, 0, w, e => by
    have e : some (some (W.d d)) = some (some w) := e
    injection e with e
    injection e with e
    exact .inl ⟨d, e.symm, rfl⟩
  | _, _, .da h, i + 1, w, e => h.at i w e
  | _, _, .lo (j := j) (xs := xs) e0 h, 0, w, e => by
    have e : some (some (W.d (.lst xs))) = some (some w) := e
    injection e with e
    injection e with e
    exact .inr ⟨j, xs, rfl, e0, e.symm⟩
  | _, _, .lo _ h, i + 1, w, e => h.at i w e
end Dl
namespace Dl
open PySem PySem.Spec PyProof.Rows L2
variable [TheW]
structure RowS where
  t : Addr
  b : Value
  u : Value
inductive RowsS (X : Cx) (F : Hp) (s : Shared) : List (D × D) → List RowS → List Value → Prop
  | nil : RowsS X F s [] [] []
  | cons {p : D × D} {r : RowS} {ps rs its} {v : V} : s.heap.IsTuple r.t #[r.b, r.u] → KyS p.1 → (∃ t, r.b = .str (sOf p.1) t) → Rep X.K F p.2 v → RelV v r.u → RowsS X F s ps rs its → RowsS X F s (p :: ps) (r :: rs) (.ref r.t :: its)
section
variable {X : Cx} {pins : List (Addr × Obj)} {s : Shared} {σ : L2.St} {H F : Hp}
theorem RowsS.len {ps : List (D × D)} {rs : List RowS} {its : List Value} (h : RowsS X F s ps rs its) : ps.length = rs.length ∧ its.length = rs.length := by
  induction h with
  | nil => exact ⟨rfl, rfl⟩
  | cons _ _ _ _ _ _ ih => exact ⟨by simp [ih.1], by simp [ih.2]⟩
end
end Dl
namespace Dl
open PySem PySem.Spec PyProof.Rows L2
variable [TheW]
def ccS (R : Fm) (e : List Nat × Sm3) : Fm := putF R e.1 ((getF R e.1).getD [] ++ e.2)
abbrev cc (ys : Fm) : Fm := ys.foldl ccS []
structure CcO (E R : Fm) : Prop where
  nd : NdF R
  sel : ∀ d, (getF R d).getD [] = selE E d
  len : R.length ≤ E.length
  src : ∀ r ∈ R, r.1 ∈ E.map (·.1)
theorem CcO.row {E R : Fm} (h : CcO E R) {r : List Nat × Sm3} (hr : r ∈ R) : r.2 = selE E r.1 := by
  have := h.sel r.1
  rw [getF_mem h.nd hr] at this
  exact this
structure DueOk (ys C R : Fm) : Prop where
  cc : CcO ys C
  nd : NdF R
  ne : ∀ r ∈ R, r.2 ≠ []
  can : ∀ r ∈ R, Can r.2 ∧ FrS r.2
  nz : ∀ x ∈ ys, NzB x.2
  fk : ∀ x ∈ ys, FrS x.2
  ln : ∀ d φ, lin φ ((getF R d).getD []) = lin φ (selE ys d)
theorem can_nil : Can [] := ⟨List.Pairwise.nil, (fun _ h => nomatch h), (fun _ h => nomatch h)⟩
theorem DueOk.get {ys C R : Fm} (h : DueOk ys C R) (d : List Nat) : Can ((getF R d).getD []) ∧ FrS ((getF R d).getD []) := by
  cases g : getF R d with
  | none => exact ⟨can_nil, fun _ h => nomatch h⟩
  | some A => exact h.can _ (getF_some g)
end Dl
namespace Dl
open PySem PySem.Spec PyProof.Rows L2
variable [TheW]
def wLc2L (g : DG) (tt : DT) (wi1 : DI) (g1 : DG) (tt1 : DT) (te : DE) (vs1 : List Nat) (δ : List (Option W)) (Q : List D → List O → Prop) : List D → List D → List O → Prop
  | [], acc, μ => Q acc μ
  | x :: xs, acc, μ => g (.d x) ⟨δ, μ⟩ (fun st2 => tt st2 (fun b st3 => brD b
      (wi1 st3 (fun ys st4 => lcP g1 tt1 te (wipeD st4.δ vs1) (fun acc' μ' => wLc2L g tt wi1 g1 tt1 te vs1 δ Q xs acc' μ') ys acc st4.μ) (fun _ _ => False))
      (wLc2L g tt wi1 g1 tt1 te vs1 δ Q xs acc st3.μ)) (fun _ _ => False)) (fun _ _ => False)
structure lc2P (g : DG) (tt : DT) (wi1 : DI) (g1 : DG) (tt1 : DT) (te : DE) (vs1 : List Nat) (δ : List (Option W)) (Q : List D → List O → Prop) (xs acc : List D) (μ : List O) : Prop where
  run : wLc2L g tt wi1 g1 tt1 te vs1 δ Q xs acc μ
def wLc2 (wi : DI) (g : DG) (tt : DT) (wi1 : DI) (g1 : DG) (tt1 : DT) (te : DE) (vs vs1 : List Nat) : DE := fun st Q E => wi st (fun xs st1 => lc2P g tt wi1 g1 tt1 te vs1 (wipeD st1.δ vs) (fun acc μ => Q (.d (.lst acc)) { st1 with μ := μ }) xs [] st1.μ) E
section
variable {K : PySem.W.Frag} {F F1 : Hp} {ρ ρ1 : List Addr}
theorem RepW.more {w : W} {v : V} (h : RepW K F ρ w v) (le : SubH F F1) (pre : ∃ t, ρ1 = ρ ++ t) : RepW K F1 ρ1 w v := by
  cases w with
  | d x => exact Rep.sub le x v h
  | loc n =>
    obtain ⟨a, e, q⟩ := h
    obtain ⟨t, rfl⟩ := pre
    exact ⟨a, by rw [List.getElem?_append_left (List.getElem?_eq_some_iff.mp e).1]; exact e, q⟩
  | scr xs =>
    obtain ⟨a, e, q⟩ := h
    exact ⟨a, e, SqL.sub le q⟩
end
section
variable {X : Cx} {n : En} {tg tg1 : Expr} {pos : Pos} {vs vs1 : List Nat} {g g1 : DG}
def tIDb (X : Cx) (n : En) (w : DI) : TI := fun σ H R0 => ∃ F ρ st DQ, Rl X.K n F ρ st σ H ∧ w st DQ (fun _ _ => False) ∧ ∀ J xs st' H' F' ρ', Post F ρ H F' ρ' H' → Rl X.K n F' ρ' st' σ H' → ItD X.K F' J xs → DQ xs st' → R0 J H'
theorem blk_i {scope : Scope} {iter : Expr} {wi : DI} (hg : BlkP X scope fun Y => PID Y n tg iter wi) : ∀ (s : Shared) (H : Hp) (C : Addr) (cl : List (Str × Addr)) (fp : List Addr), PI (X.blk s H scope (compEnvC scope cl C X.env) fp) tg iter (tIDb X n wi) := fun s H C cl fp => by
  refine ⟨fun pins s' σ H' R0 I ⟨F, ρ, st, DQ, R, hw, k⟩ => ?_⟩
  refine thn ((hg s H C cl fp).run pins s' σ H' F ρ st DQ _ I R (takes_no rfl) hw) fun v s1 q => thn q fun itv s2 ⟨it, fp', tn, J, H2, e, I', T, st2, f2, xs, st', F', ρ', p, R', it', q⟩ => ?_
  exact ⟨it, fp', tn, J, H2, e, I', T, st2, f2, k J xs st' H2 F' ρ' p R' it' q⟩
theorem lc2_sim {wi wi1 : DI} {tt tt1 : DT} {te : DE} {scope : Scope} {σ : L2.St} {H F : Hp} {ρ : List Addr} {st : Dst} {Q : DQ} {E : DX} {k : VK} (R : Rl X.K n F ρ st σ H) (tk : TkD X n E) (h : wLc2 wi g tt wi1 g1 tt1 te vs vs1 st Q E) (hk : ∀ v H', qE X n σ F ρ H Q v H' → k v H') :
    tLc2 (tID X n wi) (tGWb X n scope vs g) (tTb X n tt) (tIDb X n wi1) (tGWb X n scope vs1 g1) (tTb X n tt1) (tEb X n te) vs vs1 σ H k := by
  refine ⟨F, ρ, st, _, E, R, tk, h, fun J xs st1 H1 F1 ρ1 p1 R1 it h1 => ?_⟩
  have h1 := h1.run
  intro L hL
  have fL : F1 L = none := by
    cases q : F1 L with
    | none => rfl
    | some u => rw [R1.ok.sub L u q] at hL; cases hL
  have rL : L ∉ ρ1 := fun z => R1.ok.dom L z hL
  refine ⟨fun i m H' => m = xs.length - i ∧ i ≤ xs.length ∧ ∃ F' ρ' μ acc us, Post F1 ρ1 H1 F' ρ' H' ∧ StOk X.K F' ρ' μ H' ∧ F' L = none ∧ L ∉ ρ' ∧ H' L = some (.lst us) ∧ RepL X.K F' acc us ∧
      wLc2L g tt wi1 g1 tt1 te vs1 (wipeD st1.δ vs) (fun acc μ => Q (.d (.lst acc)) { st1 with μ := μ }) (xs.drop i) acc μ,
    ⟨xs.length, by simp, Nat.zero_le _, F1, ρ1, st1.μ, [], [], (Post.refl _ _ _).wrote hL, R1.ok.wrote fL rL (by rw [hL]; intro _ z; cases z), fL, rL, upd_same, RepL.nil, h1⟩, ?_⟩
  rintro i m H2 ⟨rfl, hi, F2, ρ2, μ2, acc, us, p2, ok2, f2, r2, e2, ra, h2⟩
  by_cases hlt : i < xs.length
  · refine .inr ⟨it.go i F2 H2 p2.le ok2.sub hlt, fun H' => i + 1 ≤ xs.length ∧ ∃ F' ρ' μ acc us, Post F1 ρ1 H1 F' ρ' H' ∧ StOk X.K F' ρ' μ H' ∧ F' L = none ∧ L ∉ ρ' ∧ H' L = some (.lst us) ∧ RepL X.K F' acc us ∧
      wLc2L g tt wi1 g1 tt1 te vs1 (wipeD st1.δ vs) (fun acc μ => Q (.d (.lst acc)) { st1 with μ := μ }) (xs.drop (i + 1)) acc μ, fun H' ⟨l, q⟩ => ⟨xs.length - (i + 1), by omega, rfl, l, q⟩, fun x H' y => ?_⟩
    obtain ⟨d, F3, ed, gr, rd⟩ := it.yld i F2 H2 x H' p2.le ok2.sub hlt y
    have ed : xs[i] = d := by rw [List.getElem?_eq_getElem hlt] at ed; exact Option.some.inj ed
    have edr : xs.drop i = d :: xs.drop (i + 1) := by rw [List.drop_eq_getElem_cons hlt, ed]
    rw [edr] at h2
    have R2 : Rl X.K n F2 ρ2 ⟨wipeD st1.δ vs, μ2⟩ (L2.wipe σ vs) H2 := (R1.wipe vs).step p2 ok2
    obtain ⟨p3, R3⟩ := R2.grow gr
    have p13 := p2.trans p3 ok2.dom
    obtain ⟨f3, e3⟩ := gr.keep f2 e2
    refine ⟨F3, ρ2, _, .d d, _, R3, rd, h2, fun σ4 H4 F4 ρ4 st4 p4 R4 h4 l4 z4 => ⟨?_, ?_⟩⟩
    · exact (wipe_eq l4 z4).trans (wipe_wipe vs)
    have p14 := p13.trans p4 R3.ok.dom
    obtain ⟨f4, e4, r4⟩ := p4.own f3 e3 r2
    have p24 := p3.trans p4 R3.ok.dom
    refine ⟨F4, ρ4, st4, _, R4, h4, fun bb st5 H5 F5 ρ5 p5 R5 h5 => ?_⟩
    have p15 := p14.trans p5 R4.ok.dom
    obtain ⟨f5, e5, r5⟩ := p5.own f4 e4 r4
    have p25 := p24.trans p5 R4.ok.dom
    cases bb with
    | false => have h5 := brD_f h5; exact ⟨hlt, F5, ρ5, st5.μ, acc, us, p15, R5.ok, f5, r5, e5, RepL.sub p25.le _ _ ra, h5⟩
    | true =>
      have h5 := brD_t h5
      refine ⟨F5, ρ5, st5, _, R5, h5, fun J1 ys st6 H6 F6 ρ6 p6 R6 it1 h6 => ?_⟩
      have h6 := h6.run
      have p16 := p15.trans p6 R5.ok.dom
      obtain ⟨f6, e6, r6⟩ := p6.own f5 e5 r5
      have p26 := p25.trans p6 R5.ok.dom
      have ra6 := RepL.sub p26.le _ _ ra
      refine ⟨fun j k H' => k = ys.length - j ∧ j ≤ ys.length ∧ ∃ F' ρ' μ acc us, Post F1 ρ1 H1 F' ρ' H' ∧ SubH F6 F' ∧ (∃ t, ρ' = ρ6 ++ t) ∧ StOk X.K F' ρ' μ H' ∧ F' L = none ∧ L ∉ ρ' ∧ H' L = some (.lst us) ∧ RepL X.K F' acc us ∧
          wLcL g1 tt1 te (wipeD st6.δ vs1) (fun acc' μ' => wLc2L g tt wi1 g1 tt1 te vs1 (wipeD st1.δ vs) (fun acc μ => Q (.d (.lst acc)) { st1 with μ := μ }) (xs.drop (i + 1)) acc' μ') (ys.drop j) acc μ,
        ⟨ys.length, by simp, Nat.zero_le _, F6, ρ6, st6.μ, acc, us, p16, SubH.refl _, ⟨[], by simp⟩, R6.ok, f6, r6, e6, ra6, h6⟩, ?_⟩
      rintro j k7 H7 ⟨rfl, hj, F7, ρ7, μ7, acc7, us7, p7, le7, pre7, ok7, f7, r7, e7, ra7, h7⟩
      by_cases hlt1 : j < ys.length
      · refine .inr ⟨it1.go j F7 H7 le7 ok7.sub hlt1, fun H' => j + 1 ≤ ys.length ∧ ∃ F' ρ' μ acc us, Post F1 ρ1 H1 F' ρ' H' ∧ SubH F6 F' ∧ (∃ t, ρ' = ρ6 ++ t) ∧ StOk X.K F' ρ' μ H' ∧ F' L = none ∧ L ∉ ρ' ∧ H' L = some (.lst us) ∧ RepL X.K F' acc us ∧
            wLcL g1 tt1 te (wipeD st6.δ vs1) (fun acc' μ' => wLc2L g tt wi1 g1 tt1 te vs1 (wipeD st1.δ vs) (fun acc μ => Q (.d (.lst acc)) { st1 with μ := μ }) (xs.drop (i + 1)) acc' μ') (ys.drop (j + 1)) acc μ,
          fun H' ⟨l, q⟩ => ⟨ys.length - (j + 1), by omega, rfl, l, q⟩, fun x1 H8 y1 => ?_⟩
        obtain ⟨d1, F8, ed1, gr1, rd1⟩ := it1.yld j F7 H7 x1 H8 le7 ok7.sub hlt1 y1
        have ed1 : ys[j] = d1 := by rw [List.getElem?_eq_getElem hlt1] at ed1; exact Option.some.inj ed1
        have edr1 : ys.drop j = d1 :: ys.drop (j + 1) := by rw [List.drop_eq_getElem_cons hlt1, ed1]
        rw [edr1] at h7
        have R6w := R6.wipe vs1
        have R7 : Rl X.K n F7 ρ7 ⟨wipeD st6.δ vs1, μ7⟩ (L2.wipe σ4 vs1) H7 :=
          ⟨ok7, R1.po.trans p7 R1.ok.dom, R6w.len, fun i w e => let ⟨v, a, b⟩ := R6w.slots i w e; ⟨v, a, b.more le7 pre7⟩⟩
        obtain ⟨p8, R8⟩ := R7.grow gr1
        have p18 := p7.trans p8 ok7.dom
        obtain ⟨f8, e8⟩ := gr1.keep f7 e7
        have more : ∀ {F' : Hp} {ρ' : List Addr} {H' : Hp}, Post F7 ρ7 H7 F' ρ' H' → SubH F6 F' ∧ ∃ t, ρ' = ρ6 ++ t := fun {F' ρ' H'} q => by
          obtain ⟨t, et⟩ := pre7
          obtain ⟨u, eu⟩ := q.pre
          exact ⟨fun b o e => q.le b o (le7 b o e), ⟨t ++ u, by rw [eu, et, List.append_assoc]⟩⟩
        refine ⟨F8, ρ7, _, .d d1, _, R8, rd1, h7, fun σ9 H9 F9 ρ9 st9 p9 R9 h9 l9 z9 => ⟨?_, ?_⟩⟩
        · exact (wipe_eq l9 z9).trans (wipe_wipe vs1)
        have p19 := p18.trans p9 R8.ok.dom
        obtain ⟨f9, e9, r9⟩ := p9.own f8 e8 r7
        have p29 := p8.trans p9 R8.ok.dom
        refine ⟨F9, ρ9, st9, _, R9, h9, fun bb st10 H10 F10 ρ10 p10 R10 h10 => ?_⟩
        have p110 := p19.trans p10 R9.ok.dom
        obtain ⟨f10, e10, r10⟩ := p10.own f9 e9 r9
        have p210 := p29.trans p10 R9.ok.dom
        cases bb with
        | false => have h10 := brD_f h10; exact ⟨hlt1, F10, ρ10, st10.μ, acc7, us7, p110, (more p210).1, (more p210).2, R10.ok, f10, r10, e10, RepL.sub p210.le _ _ ra7, h10⟩
        | true =>
          have h10 := brD_t h10
          refine ⟨F10, ρ10, st10, _, R10, h10, fun v w11 st11 H11 F11 ρ11 p11 R11 rw11 h11 => ?_⟩
          have p111 := p110.trans p11 R10.ok.dom
          obtain ⟨f11, e11, r11⟩ := p11.own f10 e10 r10
          have p211 := p210.trans p11 R10.ok.dom
          cases w11 <;> first | exact h11.elim | skip
          rename_i d11
          have ra11 := RepL.sub p211.le _ _ ra7
          exact ⟨us7, e11, by rw [← ra11.len, sizeLine_eq]; exact h11.1, hlt1, F11, ρ11, st11.μ, acc7 ++ [d11], us7 ++ [v], p111.wrote hL, (more p211).1, (more p211).2, R11.ok.wrote f11 r11 (by rw [e11]; intro _ z; cases z), f11, r11, upd_same, ra11.app (RepL.one rw11), h11.2⟩
      · have e : j = ys.length := by omega
        subst e
        rw [List.drop_length] at h7
        exact .inl ⟨it1.stop _ F7 H7 le7 ok7.sub (Nat.le_refl _), hlt, F7, ρ7, μ7, acc7, us7, p7, ok7, f7, r7, e7, ra7, h7⟩
  · have e : i = xs.length := by omega
    subst e
    rw [List.drop_length] at h2
    refine .inl ⟨it.stop _ F2 H2 p2.le ok2.sub (Nat.le_refl _), hk _ _ ⟨.d (.lst acc), { st1 with μ := μ2 }, L2.upd F2 L (.lst us), ρ2, p1.trans (p2.froze hL f2) R1.ok.dom, R1.step (p2.froze hL f2) (ok2.froze f2 e2 r2), ?_, h2⟩⟩
    show Rep _ _ (.lst acc) _
    unfold Rep
    exact ⟨L, us, rfl, upd_same, RepL.sub (fun b u e => by rw [upd_ne (ne_of_none e f2)]; exact e) _ _ ra⟩
end
end Dl
namespace Dl
open PySem PySem.Spec PyProof.Rows L2
structure ColG (ps : Sm3) : Prop where
  sm : ∀ pre q post, ps = pre ++ q :: post → (Sm ((getS (colS pre) q.1).getD (0, 1)).1 ∧ Sm ((getS (colS pre) q.1).getD (0, 1)).2) ∧ ((getS (colS pre) q.1).getD (0, 1)).2 ≠ 0
  el : ∀ q ∈ ps, (Sm q.2.1 ∧ Sm q.2.2) ∧ q.2.2 ≠ 0
  len : ps.length ≤ 100000
theorem ColG.nzb {ps : Sm3} (h : ColG ps) : NzB ps := fun q hq => (h.el q hq).2
theorem colS_snoc (pre : Sm3) (q : T3 × Pr) : colS (pre ++ [q]) = addS (colS pre) q := by
  unfold colS
  rw [List.foldl_append]
  rfl
theorem ndS_col (pre : Sm3) : NdS (colS pre) := nd_col List.Pairwise.nil
theorem len_col (pre : Sm3) : (colS pre).length ≤ pre.length := by
  have h := len_fold pre []
  rw [List.length_nil, Nat.zero_add] at h
  exact h
structure ColW (rest acc : Sm3) : Prop where
  ex : ∃ pre, acc = colS pre ∧ ColG (pre ++ rest)
theorem ColW.nd {rest acc : Sm3} (h : ColW rest acc) : NdS acc := by
  obtain ⟨pre, rfl, _⟩ := h.ex
  exact ndS_col pre
theorem ColW.len {rest acc : Sm3} (h : ColW rest acc) : acc.length ≤ 1000000 := by
  obtain ⟨pre, rfl, g⟩ := h.ex
  have := g.len
  rw [List.length_append] at this
  have := len_col pre
  omega
theorem ColW.step {q : T3 × Pr} {rest acc : Sm3} (h : ColW (q :: rest) acc) : ColW rest (addS acc q) := by
  obtain ⟨pre, rfl, g⟩ := h.ex
  exact ⟨pre ++ [q], (colS_snoc pre q).symm, by rw [List.append_assoc]; exact g⟩
structure Big (m d B : Nat) : Prop where
  d0 : 0 < d
  d1 : d < 2 ^ 3000
  b1 : B * (m + 1) * d < 2 ^ 3000
  m1 : m ≤ 100000
theorem Big.one {m d B : Nat} (n : Big m d B) : B * d < 2 ^ 3000 := by
  refine Nat.lt_of_le_of_lt (Nat.mul_le_mul_right _ ?_) n.b1
  exact Nat.le_mul_of_pos_right _ (by omega)
structure Num (m d B e C : Nat) : Prop where
  big : Big m d B
  e0 : 0 < e
  e1 : e < 2 ^ 3000
  c1 : C * e < 2 ^ 3000
theorem Num.bs {m d B e C : Nat} (n : Num m d B e C) {p : Pr} (h : Nb e C p) : Bd 3000 p := Nb.bd h n.e0 n.e1 n.c1
theorem Big.le {m m' d B B' : Nat} (n : Big m' d B') (h1 : m ≤ m') (h2 : B ≤ B') : Big m d B :=
  ⟨n.d0, n.d1, Nat.lt_of_le_of_lt (Nat.mul_le_mul_right _ (Nat.mul_le_mul h2 (by omega))) n.b1, Nat.le_trans h1 n.m1⟩
theorem Num.le {m m' d B B' e C : Nat} (n : Num m' d B' e C) (h1 : m ≤ m') (h2 : B ≤ B') : Num m d B e C := ⟨n.big.le h1 h2, n.e0, n.e1, n.c1⟩
variable [TheW]
def linF (Φ : List Nat → T3 → Rat) : Fm → Rat
  | [] => 0
  | r :: R => lin (Φ r.1) r.2 + linF Φ R
theorem linF_app (Φ : List Nat → T3 → Rat) : ∀ R S : Fm, linF Φ (R ++ S) = linF Φ R + linF Φ S
  | [], S => by show linF Φ S = 0 + linF Φ S; rw [Rat.zero_add]
  | r :: R, S => by
    show lin (Φ r.1) r.2 + linF Φ (R ++ S) = lin (Φ r.1) r.2 + linF Φ R + linF Φ S
    rw [linF_app Φ R S, Rat.add_assoc]
theorem linF_none {Φ : List Nat → T3 → Rat} {d : List Nat} {A : Sm3} : ∀ {R : Fm}, d ∉ R.map (·.1) → linF Φ (R.map fun r => if r.1 = d then (r.1, A) else r) = linF Φ R
  | [], _ => rfl
  | r :: R, h => by
    have h1 : r.1 ≠ d := fun z => h (by rw [← z]; exact List.mem_cons_self)
    show linF Φ ((if r.1 = d then (r.1, A) else r) :: _) = _
    rw [if_neg h1]
    show lin (Φ r.1) r.2 + linF Φ _ = lin (Φ r.1) r.2 + _
    rw [linF_none fun z => h (List.mem_cons_of_mem _ z)]
theorem linF_map {Φ : List Nat → T3 → Rat} {d : List Nat} {A B : Sm3} : ∀ {R : Fm}, NdF R → getF R d = some B → linF Φ (R.map fun r => if r.1 = d then (r.1, A) else r) = linF Φ R - lin (Φ d) B + lin (Φ d) A
  | [], _, h => by cases h
  | r :: R, nd, h => by
    have nd2 : (r.1 :: R.map (·.1)).Nodup := nd
    obtain ⟨n1, n2⟩ := List.nodup_cons.mp nd2
    show linF Φ ((if r.1 = d then (r.1, A) else r) :: _) = lin (Φ r.1) r.2 + linF Φ R - lin (Φ d) B + lin (Φ d) A
    by_cases e : r.1 = d
    · subst e
      have hB : r.2 = B := by
        have : getF (r :: R) r.1 = some r.2 := getF_mem nd List.mem_cons_self
        rw [this] at h; exact Option.some.inj h
      subst hB
      rw [if_pos rfl]
      show lin (Φ r.1) A + linF Φ _ = _
      rw [linF_none n1]; grind
    · rw [if_neg e]
      have h2 : getF R d = some B := by
        unfold getF at h ⊢
        rw [List.find?_cons, show decide (r.1 = d) = false from decide_eq_false e] at h
        exact h
      show lin (Φ r.1) r.2 + linF Φ _ = _
      rw [linF_map n2 h2]; grind
theorem linF_put {Φ : List Nat → T3 → Rat} {R : Fm} {d : List Nat} {A : Sm3} (nd : NdF R) : linF Φ (putF R d A) = linF Φ R - lin (Φ d) ((getF R d).getD []) + lin (Φ d) A := by
  unfold putF
  cases g : getF R d with
  | none =>
    rw [if_neg (by simp), linF_app]
    show linF Φ R + (lin (Φ d) A + 0) = linF Φ R - 0 + lin (Φ d) A
    grind
  | some B =>
    rw [if_pos (show (some B).isSome = true from rfl), linF_map nd g]
    rfl
structure RwC (R : Fm) : Prop where
  nd : NdF R
  can : ∀ r ∈ R, Can r.2
  ne : ∀ r ∈ R, r.2 ≠ []
theorem RwC.get {R : Fm} (h : RwC R) (d : List Nat) : Can ((getF R d).getD []) := by
  cases g : getF R d with
  | none => exact can_nil
  | some A => exact h.can _ (getF_some g)
end Dl
namespace Dl
open PySem PySem.Spec PyProof.Rows L2
variable [TheW]
theorem fAdd_zero' {p : Pr} (h : Fr p) : fAdd (0, 1) p = p := by
  show rat (0 * p.2 + p.1 * 1) (1 * p.2) = p
  rw [Int.zero_mul, Int.zero_add, Int.mul_one, Int.one_mul]
  exact h.id
theorem fold_ndS : ∀ {l acc : Sm3}, NdS (acc ++ l) → (∀ q ∈ l, Fr q.2) → l.foldl addS acc = acc ++ l
  | [], acc, _, _ => by simp
  | q :: l, acc, nd, f => by
    have nq : q.1 ∉ acc.map (·.1) := fun z => by
      unfold NdS at nd
      rw [List.map_append] at nd
      exact (List.nodup_append.mp nd).2.2 q.1 z q.1 List.mem_cons_self rfl
    have g : getS acc q.1 = none := by
      cases e : getS acc q.1 with
      | none => rfl
      | some p => exact absurd (List.mem_map.mpr ⟨_, getS_in e, rfl⟩) nq
    have e : addS acc q = acc ++ [q] := by
      unfold addS
      rw [g, putS_new nq]
      show acc ++ [(q.1, fAdd (0, 1) q.2)] = _
      rw [fAdd_zero' (f q List.mem_cons_self)]
    rw [List.foldl_cons, e, fold_ndS (l := l) (acc := acc ++ [q]) ?_ fun x hx => f x (List.mem_cons_of_mem _ hx)]
    · simp
    · unfold NdS at nd ⊢
      have z : ((acc ++ [q]) ++ l).map (·.1) = (acc ++ q :: l).map (·.1) := by simp
      rw [z]
      exact nd
theorem colS_can {A : Sm3} (h : Can A) : colS A = A := by
  have := fold_ndS (l := A) (acc := []) h.nd h.fr
  rwa [List.nil_append] at this
theorem col_app {A a : Sm3} (h : Can A) : colS (A ++ a) = a.foldl addS A := by
  show (A ++ a).foldl addS [] = _
  rw [List.foldl_append]
  have : A.foldl addS [] = A := colS_can h
  rw [this]
theorem mem_of_flt {α : Type} {p : α → Bool} {l : List α} {a : α} (h : a ∈ l.filter p) : a ∈ l := (List.mem_filter.mp h).1
def trmN (R : Fm) : Nat := (R.map fun r => r.2.length).sum
theorem trmN_cons (r : List Nat × Sm3) (R : Fm) : trmN (r :: R) = r.2.length + trmN R := by simp [trmN]
theorem trmN_app (R S : Fm) : trmN (R ++ S) = trmN R + trmN S := by simp [trmN]
theorem trmN_none {d : List Nat} {A : Sm3} : ∀ {R : Fm}, d ∉ R.map (·.1) → trmN (R.map fun r => if r.1 = d then (r.1, A) else r) = trmN R
  | [], _ => rfl
  | r :: R, h => by
    have h1 : r.1 ≠ d := fun z => h (by rw [← z]; exact List.mem_cons_self)
    rw [List.map_cons, if_neg h1, trmN_cons, trmN_cons, trmN_none fun z => h (List.mem_cons_of_mem _ z)]
theorem trmN_map {d : List Nat} {A B : Sm3} : ∀ {R : Fm}, NdF R → getF R d = some B → trmN (R.map fun r => if r.1 = d then (r.1, A) else r) + B.length = trmN R + A.length
  | [], _, h => by cases h
  | r :: R, nd, h => by
    have nd2 : (r.1 :: R.map (·.1)).Nodup := nd
    obtain ⟨n1, n2⟩ := List.nodup_cons.mp nd2
    rw [List.map_cons]
    by_cases e : r.1 = d
    · subst e
      have hB : r.2 = B := by
        have : getF (r :: R) r.1 = some r.2 := getF_mem nd List.mem_cons_self
        rw [this] at h; exact Option.some.inj h
      subst hB
      rw [if_pos rfl, trmN_cons, trmN_cons, trmN_none n1]
      simp only
      omega
    · rw [if_neg e, trmN_cons, trmN_cons]
      have h2 : getF R d = some B := by
        unfold getF at h ⊢
        rw [List.find?_cons, show decide (r.1 = d) = false from decide_eq_false e] at h
        exact h
      have := trmN_map (A := A) n2 h2
      omega
theorem trmN_put {R : Fm} {d : List Nat} {A : Sm3} (nd : NdF R) : trmN (putF R d A) + ((getF R d).getD []).length = trmN R + A.length := by
  unfold putF
  cases g : getF R d with
  | none =>
    rw [if_neg (by simp), trmN_app, trmN_cons]
    rfl
  | some B =>
    rw [if_pos (show (some B).isSome = true from rfl)]
    exact trmN_map nd g
theorem trmN_mem {R : Fm} {r : List Nat × Sm3} (h : r ∈ R) : r.2.length ≤ trmN R := by
  induction R with
  | nil => cases h
  | cons x R ih =>
    rw [trmN_cons]
    rcases List.mem_cons.mp h with rfl | h
    · omega
    · have := ih h; omega
theorem trmN_len : ∀ {R : Fm}, (∀ r ∈ R, r.2 ≠ []) → R.length ≤ trmN R
  | [], _ => Nat.le_refl _
  | r :: R, h => by
    rw [trmN_cons, List.length_cons]
    have := trmN_len (R := R) fun x hx => h x (List.mem_cons_of_mem _ hx)
    have := List.length_pos_iff.mpr (h r List.mem_cons_self)
    omega
structure FmW (P : List Nat → Prop) (m d B e C : Nat) (R : Fm) : Prop where
  nd : NdF R
  dk : ∀ r ∈ R, P r.1
  can : ∀ r ∈ R, Can r.2
  sh : ∀ r ∈ R, ∀ q ∈ r.2, Nb d B q.2
  tb : ∀ r ∈ R, ∀ q ∈ r.2, Nt e C q.1
  ne : ∀ r ∈ R, r.2 ≠ []
  tot : trmN R ≤ m
structure EnW (P : List Nat → Prop) (m d B e C : Nat) (E : Fm) : Prop where
  dk : ∀ r ∈ E, P r.1
  sh : ∀ r ∈ E, ∀ q ∈ r.2, Nb d B q.2
  tb : ∀ r ∈ E, ∀ q ∈ r.2, Nt e C q.1
  tot : trmN E ≤ m
section
variable {P : List Nat → Prop} {m d B e C : Nat} {R : Fm}
theorem FmW.sw (h : FmW P m d B e C R) {r : List Nat × Sm3} (hr : r ∈ R) : Sw m d B e C r.2 := ⟨h.can r hr, h.sh r hr, h.tb r hr, Nat.le_trans (trmN_mem hr) h.tot⟩
theorem sw_nil (m d B e C : Nat) : Sw m d B e C [] := ⟨can_nil, (fun _ h => nomatch h), (fun _ h => nomatch h), Nat.zero_le _⟩
theorem FmW.get (h : FmW P m d B e C R) (x : List Nat) : Sw m d B e C ((getF R x).getD []) := by
  cases g : getF R x with
  | none => exact sw_nil ..
  | some A => exact h.sw (r := (x, A)) (getF_some g)
theorem FmW.len (h : FmW P m d B e C R) : R.length ≤ m := Nat.le_trans (trmN_len h.ne) h.tot
theorem FmW.mono {m' d' B' e' C' : Nat} (h : FmW P m d B e C R) (hm : m ≤ m') (hd : d ∣ d') (hB : B ≤ B') (he : e ∣ e') (hC : C ≤ C') : FmW P m' d' B' e' C' R :=
  ⟨h.nd, h.dk, h.can, fun r hr q hq => ((h.sh r hr q hq).mono hB).den hd, fun r hr q hq => ((h.tb r hr q hq).mono hC).den he, h.ne, Nat.le_trans h.tot hm⟩
theorem EnW.mono {m' d' B' e' C' : Nat} (h : EnW P m d B e C R) (hm : m ≤ m') (hd : d ∣ d') (hB : B ≤ B') (he : e ∣ e') (hC : C ≤ C') : EnW P m' d' B' e' C' R :=
  ⟨h.dk, fun r hr q hq => ((h.sh r hr q hq).mono hB).den hd, fun r hr q hq => ((h.tb r hr q hq).mono hC).den he, Nat.le_trans h.tot hm⟩
theorem EnW.app {m' : Nat} {S : Fm} (h : EnW P m d B e C R) (g : EnW P m' d B e C S) : EnW P (m + m') d B e C (R ++ S) :=
  ⟨fun r hr => (List.mem_append.mp hr).elim (h.dk r) (g.dk r), fun r hr => (List.mem_append.mp hr).elim (h.sh r) (g.sh r), fun r hr => (List.mem_append.mp hr).elim (h.tb r) (g.tb r), by rw [trmN_app]; have := h.tot; have := g.tot; omega⟩
theorem EnW.trw (h : EnW P m d B e C R) {r : List Nat × Sm3} (hr : r ∈ R) : Trw m d B e C r.2 := ⟨h.sh r hr, h.tb r hr, Nat.le_trans (trmN_mem hr) h.tot⟩
end
structure FSw (P : List Nat → Prop) (d B e C : Nat) (E R : Fm) : Prop where
  nd : NdF R
  dk : ∀ r ∈ R, P r.1
  can : ∀ r ∈ R, Can r.2
  sh : ∀ r ∈ R, ∀ q ∈ r.2, Nb d (B * trmN E) q.2
  tb : ∀ r ∈ R, ∀ q ∈ r.2, Nt e C q.1
  tot : trmN R ≤ trmN E
  ln : ∀ Φ, linF Φ R = linF Φ E
  len : R.length ≤ E.length
section
variable {P : List Nat → Prop} {m d B e C : Nat} {E R : Fm} {x : List Nat × Sm3}
theorem fsw_nil (P : List Nat → Prop) (d B e C : Nat) : FSw P d B e C [] [] := ⟨List.Pairwise.nil, (fun _ h => nomatch h), (fun _ h => nomatch h), (fun _ h => nomatch h), (fun _ h => nomatch h), Nat.le_refl _, fun _ => rfl, Nat.le_refl _⟩
theorem FSw.get (h : FSw P d B e C E R) (y : List Nat) : Sw (trmN E) d (B * trmN E) e C ((getF R y).getD []) := by
  cases g : getF R y with
  | none => exact sw_nil ..
  | some A => exact ⟨h.can _ (getF_some g), h.sh _ (getF_some g), h.tb _ (getF_some g), Nat.le_trans (trmN_mem (getF_some g)) h.tot⟩
theorem fsw_step (h : FSw P d B e C E R) (px : P x.1) (sh : ∀ q ∈ x.2, Nb d B q.2) (tb : ∀ q ∈ x.2, Nt e C q.1) : FSw P d B e C (E ++ [x]) (stF R x) := by
  have tr : Trw x.2.length d B e C x.2 := ⟨sh, tb, Nat.le_refl _⟩
  have hA := h.get x.1
  have eN : trmN (E ++ [x]) = trmN E + x.2.length := by rw [trmN_app, trmN_cons]; rfl
  have le : B * trmN E ≤ B * trmN (E ++ [x]) := Nat.mul_le_mul_left _ (by omega)
  have z : NzB (((getF R x.1).getD []) ++ x.2) := fun q hq => (List.mem_append.mp hq).elim (hA.trw.nzb q) (tr.nzb q)
  have nsh : ∀ q ∈ nzS (colS ((getF R x.1).getD [] ++ x.2)), Nb d (B * trmN (E ++ [x])) q.2 := fun q hq => by
    rw [col_app hA.can] at hq
    rw [eN]
    exact nb_fold x.2 _ (trmN E) hA.sh sh q (mem_of_flt hq)
  have ntb : ∀ q ∈ nzS (colS ((getF R x.1).getD [] ++ x.2)), Nt e C q.1 := key_cn (P := Nt e C) fun q hq => (List.mem_append.mp hq).elim (hA.tb q) (tb q)
  unfold stF
  refine ⟨ndF_put h.nd, fun r hr => ?_, fun r hr => ?_, fun r hr => ?_, fun r hr => ?_, ?_, fun Φ => ?_, ?_⟩
  · rcases memF_put hr with w | rfl
    · exact h.dk r w
    · exact px
  · rcases memF_put hr with w | rfl
    · exact h.can r w
    · exact can_cn z
  · rcases memF_put hr with w | rfl
    · exact fun q hq => (h.sh r w q hq).mono le
    · exact nsh
  · rcases memF_put hr with w | rfl
    · exact h.tb r w
    · exact ntb
  · have t := trmN_put (A := nzS (colS ((getF R x.1).getD [] ++ x.2))) (d := x.1) h.nd
    have l := len_cn ((getF R x.1).getD [] ++ x.2)
    rw [List.length_append] at l
    have := h.tot
    omega
  · rw [linF_put h.nd, lin_cn z, lin_app, linF_app, h.ln]
    show _ = linF Φ E + (lin (Φ x.1) x.2 + 0)
    grind
  · have := len_put R x.1 (nzS (colS ((getF R x.1).getD [] ++ x.2)))
    have := h.len
    rw [List.length_append, List.length_singleton]
    omega
theorem fsw_fold : ∀ (E' E R : Fm), FSw P d B e C E R → (∀ x ∈ E', P x.1 ∧ (∀ q ∈ x.2, Nb d B q.2) ∧ ∀ q ∈ x.2, Nt e C q.1) → FSw P d B e C (E ++ E') (E'.foldl stF R)
  | [], E, R, h, _ => by rw [List.append_nil]; exact h
  | x :: E', E, R, h, hx => by
    obtain ⟨h1, h2, h3⟩ := hx x List.mem_cons_self
    have := fsw_fold E' (E ++ [x]) (stF R x) (fsw_step h h1 h2 h3) fun y hy => hx y (List.mem_cons_of_mem _ hy)
    rwa [List.append_assoc] at this
theorem EnW.pre {pre post : Fm} (h : EnW P m d B e C E) (eq : E = pre ++ post) : FSw P d B e C pre (pre.foldl stF []) := by
  have := fsw_fold pre [] [] (fsw_nil P d B e C) fun x hx => by
    have hx : x ∈ E := by rw [eq]; exact List.mem_append_left _ hx
    exact ⟨h.dk x hx, h.sh x hx, h.tb x hx⟩
  rwa [List.nil_append] at this
end
section
variable {P : List Nat → Prop} {m d B e C m' d' B' e' C' : Nat} {R S : Fm} {op : List Nat → List Nat → List Nat}
theorem FmW.nzb (h : FmW P m d B e C R) : ∀ r ∈ R, NzB r.2 := fun r hr => (h.can r hr).nzb
theorem EnW.nzb (h : EnW P m d B e C R) : ∀ r ∈ R, NzB r.2 := fun r hr => (h.trw hr).nzb
end
end Dl
namespace Dl
open PySem PySem.Spec PyProof.Rows L2
variable [TheW]
structure MulW (m d B e C m' d' B' e' C' : Nat) : Prop where
  n1 : Num m d B e C
  n2 : Num m' d' B' e' C'
  n : Num (m * m') (d * d') (B * B' * (m * m') * (m * m') * (m * m')) (e * e') (C * C')
  p1 : 1 ≤ m
  p2 : 1 ≤ m'
section
variable {m d B e C m' d' B' e' C' : Nat}
theorem MulW.pos (h : MulW m d B e C m' d' B' e' C') : 1 ≤ m * m' := Nat.mul_pos h.p1 h.p2
end
section
variable {g g1 : DG} {tt tt1 : DT} {wi1 : DI} {te : DE} {vs1 : List Nat} {δ : List (Option W)} {Q : List D → List O → Prop} {α β : Type}
def lc2Out (g : DG) (tt : DT) (wi1 : DI) (g1 : DG) (tt1 : DT) (te : DE) (vs1 : List Nat) (δ : List (Option W)) (x : D) (μ : List O) (Q' : List D → List O → Prop) (acc : List D) (N : List O → Prop) : Prop :=
  g (.d x) ⟨δ, μ⟩ (fun st2 => tt st2 (fun b st3 => brD b
      (wi1 st3 (fun ys st4 => lcP g1 tt1 te (wipeD st4.δ vs1) Q' ys acc st4.μ) (fun _ _ => False))
      (N st3.μ)) (fun _ _ => False)) (fun _ _ => False)
theorem lc_acc (L : List α) (h : α → D) (f : α → D) (μ : List O) (acc : List D) (hs : ∀ a ∈ L, ∀ (K : D → List O → Prop) (K2 : List O → Prop), K (f a) μ → lcStep g tt te δ (h a) μ K K2) (hl : acc.length + L.length ≤ 16777216) (hq : Q (acc ++ L.map f) μ) : lcP g tt te δ Q (L.map h) acc μ := by
  refine ⟨?_⟩
  induction L generalizing acc with
  | nil =>
    have : Q acc μ := by simpa using hq
    exact this
  | cons a L ih =>
    have hl' : acc.length + L.length + 1 ≤ 16777216 := by simp only [List.length_cons] at hl; omega
    refine hs a (by simp) (fun d μ' => acc.length < 16777216 ∧ wLcL g tt te δ Q (L.map h) (acc ++ [d]) μ') (fun μ' => wLcL g tt te δ Q (L.map h) acc μ') ⟨by omega, ?_⟩
    refine ih (acc ++ [f a]) (fun x hx => hs x (List.mem_cons_of_mem _ hx)) (by simp; omega) ?_
    rw [List.append_assoc]
    exact hq
theorem lc2_mapA (R : List α) (S : List β) (fx : α → D) (fy : β → D) (f : α → β → D) (δ1 : α → List (Option W)) (μ : List O)
    (out : ∀ a ∈ R, ∀ (Q' : List D → List O → Prop) (acc : List D) (N : List O → Prop), lcP g1 tt1 te (δ1 a) Q' (S.map fy) acc μ → lc2Out g tt wi1 g1 tt1 te vs1 δ (fx a) μ Q' acc N)
    (step : ∀ a ∈ R, ∀ b ∈ S, ∀ (K : D → List O → Prop) (K2 : List O → Prop), K (f a b) μ → lcStep g1 tt1 te (δ1 a) (fy b) μ K K2)
    (hl : R.length * S.length ≤ 16777216) (hq : Q (R.flatMap fun a => S.map (f a)) μ) : lc2P g tt wi1 g1 tt1 te vs1 δ Q (R.map fx) [] μ := by
  refine ⟨?_⟩
  have go : ∀ (L : List α) (acc : List D), (∀ a ∈ L, a ∈ R) → acc.length + L.length * S.length ≤ 16777216 → Q (acc ++ L.flatMap fun a => S.map (f a)) μ → wLc2L g tt wi1 g1 tt1 te vs1 δ Q (L.map fx) acc μ := by
    intro L
    induction L with
    | nil =>
      intro acc _ _ hq
      have : Q acc μ := by simpa using hq
      exact this
    | cons a L ih =>
      intro acc hm hl hq
      have hl' : acc.length + (S.length + L.length * S.length) ≤ 16777216 := by
        simp only [List.length_cons, Nat.add_mul, Nat.one_mul] at hl; omega
      refine out a (hm a List.mem_cons_self) (fun acc' μ' => wLc2L g tt wi1 g1 tt1 te vs1 δ Q (L.map fx) acc' μ') acc (fun μ' => wLc2L g tt wi1 g1 tt1 te vs1 δ Q (L.map fx) acc μ') ?_
      refine lc_acc S fy (f a) μ acc (fun b hb => step a (hm a List.mem_cons_self) b hb) (by omega) ?_
      refine ih (acc ++ S.map (f a)) (fun x hx => hm x (List.mem_cons_of_mem _ hx)) (by rw [List.length_append, List.length_map]; omega) ?_
      rw [List.append_assoc]
      exact hq
  exact go R [] (fun a h => h) (by simpa using hl) (by simpa using hq)
end
end Dl
namespace Dl
open PySem PySem.Spec PySem.Calls PyProof.Rows L2
structure ZS (h : Heap) (z TI TO i1 i2 l1 l2 S : Addr) (xs ys : Array Value) (i : Nat) : Prop where
  hold : (IsZip h z TI TO .none ∧ ∃ a b, IsPair h TO a b) ∨ ∃ T f oT, IsZipHeld h z TI TO T f ∧ h.get? T = some oT ∧ T ≠ z ∧ T ≠ i1 ∧ T ≠ i2 ∧ T ≠ S
  ti : IsPair h TI (.ref i1) (.ref i2)
  h1 : h.IsListIter i1 l1 i
  h2 : h.IsListIter i2 l2 i
  l1 : h.IsList l1 xs
  l2 : h.IsList l2 ys
section
variable {prog : Program} {w : World} {A : Around} {E : Value → Shared → Prop} {s : Shared} {z TI TO i1 i2 l1 l2 S : Addr} {xs ys : Array Value}
theorem ZS.over {h h' : Heap} {i : Nat} (st : ZS h z TI TO i1 i2 l1 l2 S xs ys i) (k : ∀ b o, b ≠ S → h.get? b = some o → h'.get? b = some o) (nS : S ≠ z ∧ S ≠ TI ∧ S ≠ TO ∧ S ≠ i1 ∧ S ≠ i2 ∧ S ≠ l1 ∧ S ≠ l2) : ZS h' z TI TO i1 i2 l1 l2 S xs ys i := by
  obtain ⟨n1, n2, n3, n4, n5, n6, n7⟩ := nS
  refine ⟨?_, k _ _ (Ne.symm n2) st.ti, st.h1.at fun o e => k _ o (Ne.symm n4) e, st.h2.at fun o e => k _ o (Ne.symm n5) e, st.l1.at fun o e => k _ o (Ne.symm n6) e, st.l2.at fun o e => k _ o (Ne.symm n7) e⟩
  rcases st.hold with ⟨hz, a, b, hTO⟩ | ⟨T, f, oT, hz, hT, t1, t2, t3, t4⟩
  · exact .inl ⟨k _ _ (Ne.symm n1) hz, a, b, k _ _ (Ne.symm n3) hTO⟩
  · exact .inr ⟨T, f, oT, k _ _ (Ne.symm n1) hz, k _ _ t4 hT, t1, t2, t3, t4⟩
end
end Dl
namespace Dl
open PySem PySem.Spec PyProof.Rows L2
section
variable {α : Type}
abbrev Tx (α : Type) := List (List Nat × α)
def getT (R : Tx α) (d : List Nat) : Option α := (R.find? fun r => decide (r.1 = d)).map (·.2)
end
variable [TheW]
abbrev Cn := Tx Pr
def linC (φ : List Nat → Rat) : Cn → Rat
  | [] => 0
  | r :: C => qR r.2 * φ r.1 + linC φ C
end Dl
namespace Dl
open PySem PySem.Spec PyProof.Rows L2
variable [TheW]
theorem linC_nonneg {φ : List Nat → Rat} (hφ : ∀ x, 0 ≤ φ x) : ∀ {E : Cn}, (∀ r ∈ E, 0 ≤ qR r.2) → 0 ≤ linC φ E
  | [], _ => Rat.le_refl
  | r :: E, h => Rat.add_nonneg (Rat.mul_nonneg (h r List.mem_cons_self) (hφ _)) (linC_nonneg hφ fun x hx => h x (List.mem_cons_of_mem _ hx))
variable {P : List Nat → Prop} {m d B e C' : Nat} {C : Cn} {R : Fm}
end Dl
namespace Dl
variable [TheW] {op : List Nat → List Nat → List Nat} {idle : List Nat} {C : Cn}
omit [TheW] in
def expE (op : List Nat → List Nat → List Nat) (idle : List Nat) (C : Cn) : Nat → (List Nat → Rat) → Rat
  | 0, φ => φ idle
  | n + 1, φ => linC (fun x => expE op idle C n fun y => φ (op x y)) C
omit [TheW] in
def fD (op : List Nat → List Nat → List Nat) (idle : List Nat) (C : Cn) (d : List Nat) (n : Nat) : Rat := expE op idle C n fun y => if y = d then 1 else 0
end Dl
namespace Dl
def ovr (x y : List Nat) : List Nat := (List.range x.length).map fun i => if y.getD i 0 = 46 then x.getD i 0 else y.getD i 0
def clX (x : List Nat) : List Nat := (List.range x.length).filter fun i => decide (x.getD i 0 ≠ 46)
def onX (x : List Nat) (cs : List Nat) : List Nat := (List.range x.length).map fun i => if i ∈ cs then x.getD i 0 else 46
theorem onX_len (x cs : List Nat) : (onX x cs).length = x.length := by unfold onX; simp
theorem ovr_at {x y : List Nat} {i : Nat} (h : i < x.length) : (ovr x y).getD i 0 = if y.getD i 0 = 46 then x.getD i 0 else y.getD i 0 := by
  unfold ovr
  simp [h]
theorem onX_at {x cs : List Nat} {i : Nat} (h : i < x.length) : (onX x cs).getD i 0 = if i ∈ cs then x.getD i 0 else 46 := by
  unfold onX
  simp [h]
theorem extX {x y : List Nat} (hl : x.length = y.length) (h : ∀ i, i < x.length → x.getD i 0 = y.getD i 0) : x = y := by
  refine List.ext_getElem hl fun i h1 h2 => ?_
  have := h i h1
  rw [List.getD_eq_getElem?_getD, List.getD_eq_getElem?_getD, List.getElem?_eq_getElem h1, List.getElem?_eq_getElem h2] at this
  exact this
theorem mem_clX {x : List Nat} {i : Nat} : i ∈ clX x ↔ i < x.length ∧ x.getD i 0 ≠ 46 := by
  unfold clX
  rw [List.mem_filter, List.mem_range, decide_eq_true_eq]
theorem later_of {x y d : List Nat} (hx : x.length = d.length) (hy : y.length = d.length) (h : ovr x y = d) : y = onX d (clX y) ∧ (∀ i ∈ clX y, i ∈ clX d) ∧ (∀ i ∈ clX x, i ∈ clX d) ∧ ∀ i ∈ clX d, i ∈ clX x ∨ i ∈ clX y := by
  have at_ : ∀ i, i < d.length → d.getD i 0 = if y.getD i 0 = 46 then x.getD i 0 else y.getD i 0 := fun i hi => by
    rw [← h]
    exact ovr_at (by omega)
  refine ⟨extX (by rw [onX_len]; exact hy) fun i hi => ?_, fun i hi => ?_, fun i hi => ?_, fun i hi => ?_⟩
  · rw [onX_at (by omega), at_ i (by omega)]
    by_cases e : y.getD i 0 = 46
    · rw [if_neg (fun z => (mem_clX.mp z).2 e), e]
    · rw [if_pos (mem_clX.mpr ⟨hi, e⟩), if_neg e]
  · obtain ⟨h1, h2⟩ := mem_clX.mp hi
    refine mem_clX.mpr ⟨by omega, ?_⟩
    rw [at_ i (by omega), if_neg h2]
    exact h2
  · obtain ⟨h1, h2⟩ := mem_clX.mp hi
    refine mem_clX.mpr ⟨by omega, ?_⟩
    rw [at_ i (by omega)]
    split
    · exact h2
    · assumption
  · obtain ⟨h1, h2⟩ := mem_clX.mp hi
    rw [at_ i h1] at h2
    by_cases e : y.getD i 0 = 46
    · rw [if_pos e] at h2
      exact .inl (mem_clX.mpr ⟨by omega, h2⟩)
    · exact .inr (mem_clX.mpr ⟨by omega, e⟩)
theorem cl_onX {d cs : List Nat} {i : Nat} : i ∈ clX (onX d cs) ↔ i ∈ cs ∧ i ∈ clX d := by
  rw [mem_clX, mem_clX, onX_len]
  constructor
  · rintro ⟨h1, h2⟩
    rw [onX_at h1] at h2
    by_cases m : i ∈ cs
    · rw [if_pos m] at h2
      exact ⟨m, h1, h2⟩
    · rw [if_neg m] at h2
      exact absurd rfl h2
  · rintro ⟨m, h1, h2⟩
    refine ⟨h1, ?_⟩
    rw [onX_at h1, if_pos m]
    exact h2
end Dl
namespace Dl
theorem filter_sub {a l : List Nat} (h : a.Sublist l) (nd : l.Nodup) : l.filter (fun i => decide (i ∈ a)) = a := by
  induction h with
  | slnil => rfl
  | cons x h ih =>
    rename_i a l
    obtain ⟨n1, n2⟩ := List.nodup_cons.mp nd
    have : x ∉ a := fun z => n1 (h.subset z)
    rw [List.filter_cons, if_neg (by simpa using this)]
    exact ih n2
  | cons_cons x h ih =>
    rename_i a l
    obtain ⟨n1, n2⟩ := List.nodup_cons.mp nd
    rw [List.filter_cons, if_pos (by simp)]
    have e : l.filter (fun i => decide (i ∈ x :: a)) = l.filter fun i => decide (i ∈ a) := List.filter_congr fun i hi => by
      have : i ≠ x := fun z => n1 (by rw [← z]; exact hi)
      simp [this]
    rw [e, ih n2]
theorem sub_ext {a b l : List Nat} (ha : a.Sublist l) (hb : b.Sublist l) (nd : l.Nodup) (h : ∀ i, i ∈ a ↔ i ∈ b) : a = b := by
  rw [← filter_sub ha nd, ← filter_sub hb nd]
  exact List.filter_congr fun i _ => by simp [h i]
theorem clX_nodup (x : List Nat) : (clX x).Nodup := List.Sublist.nodup List.filter_sublist List.nodup_range
variable [TheW]
def wtD (C : Cn) (d y : List Nat) : Rat := linC (fun x => if ovr x y = d then 1 else 0) C
theorem linC_ne {φ : List Nat → Rat} : ∀ {C : Cn}, linC φ C ≠ 0 → ∃ r ∈ C, φ r.1 ≠ 0
  | [], h => absurd rfl h
  | r :: C, h => by
    by_cases e : φ r.1 = 0
    · have : linC φ C ≠ 0 := fun z => h (by show qR r.2 * φ r.1 + linC φ C = 0; rw [e, z]; grind)
      obtain ⟨t, ht, n⟩ := linC_ne this
      exact ⟨t, List.mem_cons_of_mem _ ht, n⟩
    · exact ⟨r, List.mem_cons_self, e⟩
abbrev idX (k : Nat) : List Nat := List.replicate k 46
def wnD (C : Cn) (cs : List Nat) : Rat := linC (fun x => if ∀ i ∈ clX x, i ∈ cs then 1 else 0) C
end Dl
namespace Dl
variable [TheW]
theorem linC_minus {φ ψ : List Nat → Rat} : ∀ C : Cn, linC (fun x => φ x - ψ x) C = linC φ C - linC ψ C
  | [] => by show (0 : Rat) = 0 - 0; grind
  | r :: C => by
    show qR r.2 * (φ r.1 - ψ r.1) + linC _ C = (qR r.2 * φ r.1 + linC φ C) - (qR r.2 * ψ r.1 + linC ψ C)
    rw [linC_minus C]; grind
theorem linC_pos {φ : List Nat → Rat} (hφ : ∀ x, 0 ≤ φ x) : ∀ {C : Cn}, (∀ r ∈ C, 0 ≤ qR r.2) → (∃ r ∈ C, 0 < qR r.2 ∧ 0 < φ r.1) → 0 < linC φ C
  | [], _, h => by obtain ⟨r, hr, _⟩ := h; cases hr
  | r :: C, hp, h => by
    obtain ⟨t, ht, h1, h2⟩ := h
    show 0 < qR r.2 * φ r.1 + linC φ C
    have a : 0 ≤ qR r.2 * φ r.1 := Rat.mul_nonneg (hp r List.mem_cons_self) (hφ _)
    have b : 0 ≤ linC φ C := linC_nonneg hφ fun x hx => hp x (List.mem_cons_of_mem _ hx)
    rcases List.mem_cons.mp ht with rfl | ht
    · have c : 0 < qR t.2 * φ t.1 := Rat.mul_pos h1 h2
      grind
    · have c : 0 < linC φ C := linC_pos hφ (fun x hx => hp x (List.mem_cons_of_mem _ hx)) ⟨t, ht, h1, h2⟩
      grind
theorem wn_nonneg {C : Cn} (pos : ∀ r ∈ C, 0 < qR r.2) (cs : List Nat) : 0 ≤ wnD C cs := linC_nonneg (fun x => by split; decide; exact Rat.le_refl) fun r hr => by have := pos r hr; grind
theorem wn_lt {C : Cn} (pos : ∀ r ∈ C, 0 < qR r.2) {a b : List Nat} (sub : ∀ i ∈ a, i ∈ b) {r : List Nat × Pr} (hr : r ∈ C) (hb : ∀ i ∈ clX r.1, i ∈ b) (ha : ¬ ∀ i ∈ clX r.1, i ∈ a) : wnD C a < wnD C b := by
  have z : 0 < linC (fun x => (if ∀ i ∈ clX x, i ∈ b then (1 : Rat) else 0) - (if ∀ i ∈ clX x, i ∈ a then 1 else 0)) C := by
    refine linC_pos (fun x => ?_) (fun t ht => by have := pos t ht; grind) ⟨r, hr, pos r hr, ?_⟩
    · by_cases e : ∀ i ∈ clX x, i ∈ a
      · rw [if_pos e, if_pos fun i hi => sub i (e i hi)]; grind
      · rw [if_neg e]
        split <;> grind
    · rw [if_pos hb, if_neg ha]; grind
  rw [linC_minus] at z
  unfold wnD
  grind
theorem base_lt {C : Cn} {k : Nat} (hC : ∀ r ∈ C, r.1.length = k) (pos : ∀ r ∈ C, 0 < qR r.2) {d p ys : List Nat} (hd : d.length = k) (hp : p.Sublist (clX d)) (np : p ≠ clX d) (hy : ∀ i ∈ ys, i ∈ p) (hw : wtD C d (onX d p) ≠ 0) : wnD C ys < wnD C (clX d) := by
  obtain ⟨r, hr, h⟩ := linC_ne hw
  have h : ovr r.1 (onX d p) = d := Classical.byContradiction fun q => h (if_neg q)
  obtain ⟨_, l2, l3, l4⟩ := later_of ((hC r hr).trans hd.symm) (onX_len d p) h
  refine wn_lt pos (fun i hi => hp.subset (hy i hi)) hr l3 fun z => np ?_
  refine sub_ext hp (List.Sublist.refl _) (clX_nodup d) fun i => ⟨fun hi => hp.subset hi, fun hi => ?_⟩
  rcases l4 i hi with q | q
  · exact hy i (z i q)
  · exact (cl_onX.mp q).1
end Dl
namespace Dl
variable [TheW]
def feed (w : List Nat → Rat) (T : List Nat → List (Rat × Rat)) (ps : List (List Nat)) : List (Rat × Rat) := ps.flatMap fun p => if w p = 0 then [] else (T p).map fun q => (q.1, w p * q.2)
end Dl
namespace Dl
open PySem PySem.Spec PyProof.Rows L2
section
variable {α : Type}
abbrev Bx (α : Type) := List (Pr × α)
def NdP2 (R : Bx α) : Prop := (R.map (·.1)).Nodup
def getP2 (R : Bx α) (d : Pr) : Option α := (R.find? fun r => decide (r.1 = d)).map (·.2)
theorem getP2_some {R : Bx α} {d : Pr} {A : α} (h : getP2 R d = some A) : (d, A) ∈ R := by
  unfold getP2 at h
  obtain ⟨q, hq, rfl⟩ := Option.map_eq_some_iff.mp h
  have h1 := List.mem_of_find?_eq_some hq
  have e : q.1 = d := of_decide_eq_true (List.find?_some (p := fun r : Pr × α => decide (r.1 = d)) hq)
  rw [← e]; exact h1
end
variable [TheW]
end Dl
namespace Dl
open PySem PySem.Spec PyProof.Rows L2
abbrev Tb := Bx Pr
variable [TheW]
def linB (φ : Pr → Rat) : Tb → Rat
  | [] => 0
  | r :: R => qR r.2 * φ r.1 + linB φ R
structure TbW (P : Pr → Prop) (d B : Nat) (T : Tb) : Prop where
  nd : NdP2 T
  dk : ∀ r ∈ T, P r.1
  sh : ∀ r ∈ T, Nb d B r.2
theorem TbW.get {P : Pr → Prop} {d B : Nat} {T : Tb} (h : TbW P d B T) (x : Pr) : Nb d B ((getP2 T x).getD (0, 1)) := by
  cases g : getP2 T x with
  | none => exact (nb_zero d).mono (Nat.zero_le _)
  | some p => exact h.sh _ (getP2_some g)
end Dl
namespace Dl
abbrev dK : Nat := 442720643463713815200
theorem dvd48 {x : Nat} (h0 : 0 < x) (h : x ≤ 48) : x ∣ dK := by
  have z : ∀ y : Fin 49, 0 < y.val → y.val ∣ dK := by decide
  exact z ⟨x, by omega⟩ h0
theorem qR_div {p q : Pr} (h1 : p.2 ≠ 0) (h2 : q.1 ≠ 0) (h3 : q.2 ≠ 0) : qR (fDiv p q) = qR p / qR q := by
  have e : qR (fDiv p q) = Rat.divInt (p.1 * q.2) (p.2 * q.1) := qR_rat (Int.mul_ne_zero h1 h2)
  rw [e]
  unfold qR
  rw [Rat.divInt_eq_div, Rat.divInt_eq_div, Rat.divInt_eq_div, Rat.intCast_mul, Rat.intCast_mul]
  have a : (p.2 : Rat) ≠ 0 := fun z => h1 (Rat.intCast_inj.mp (z.trans (by rfl)))
  have b : (q.1 : Rat) ≠ 0 := fun z => h2 (Rat.intCast_inj.mp (z.trans (by rfl)))
  have c : (q.2 : Rat) ≠ 0 := fun z => h3 (Rat.intCast_inj.mp (z.trans (by rfl)))
  grind
theorem num_le {p : Pr} (f : Fr p) (h0 : -1 ≤ qR p) (h1 : qR p ≤ 1) : p.1.natAbs ≤ p.2.natAbs := by
  have pos := f.pos
  have e : qR p = (p.1 : Rat) / (p.2 : Rat) := by unfold qR; rw [Rat.divInt_eq_div]
  have pp : (0 : Rat) < (p.2 : Rat) := by
    have : ((0 : Int) : Rat) < (p.2 : Rat) := Rat.intCast_lt_intCast.mpr pos
    exact this
  have m : qR p * (p.2 : Rat) = (p.1 : Rat) := by
    rw [e]
    have : (p.2 : Rat) ≠ 0 := by grind
    grind
  have u : (p.1 : Rat) ≤ (p.2 : Rat) := by
    rw [← m]
    have := Rat.mul_le_mul_of_nonneg_right h1 (Rat.le_of_lt pp)
    grind
  have l : ((-p.2 : Int) : Rat) ≤ (p.1 : Rat) := by
    rw [← m, Rat.intCast_neg]
    have := Rat.mul_le_mul_of_nonneg_right h0 (Rat.le_of_lt pp)
    grind
  have u := Rat.intCast_le_intCast.mp u
  have l := Rat.intCast_le_intCast.mp l
  omega
abbrev shrP (w c b o : Pr) : Pr := fDiv (fMul w c) (fSub b o)
theorem shr_ok {S d Bw B : Nat} (s0 : 0 < S) (s16 : S ≤ 48) {w c b o : Pr} (hw : Nb S Bw w) (hc : Nb d B c) (hb : Nb S 1 b) (ho : Nb S 1 o) (b0 : 0 ≤ qR b) (lt : qR b < qR o) (o1 : qR o ≤ 1) :
    (fSub b o).1 ≠ 0 ∧ Nb (dK * d * dK) (Bw * B * 48) (shrP w c b o) ∧ qR (shrP w c b o) = qR w * qR c / (qR b - qR o) := by
  show (fSub b o).1 ≠ 0 ∧ Nb (dK * d * dK) (Bw * B * 48) (fDiv (fMul w c) (fSub b o)) ∧ qR (fDiv (fMul w c) (fSub b o)) = qR w * qR c / (qR b - qR o)
  have hm := nb_sub hb ho
  have em : qR (fSub b o) = qR b - qR o := qR_sub hb.fr.ne ho.fr.ne
  have hp := nb_mul hw hc
  have ep : qR (fMul w c) = qR w * qR c := qR_mul hw.fr.ne hc.fr.ne
  generalize fSub b o = m at hm em ⊢
  generalize fMul w c = p at hp ep ⊢
  have ne : m.1 ≠ 0 := fun z => by
    have : qR m = 0 := by
      unfold qR
      rw [z]; exact Rat.zero_divInt _
    rw [this] at em
    grind
  have le := num_le hm.fr (by rw [em]; grind) (by rw [em]; grind)
  have m2 : m.2.natAbs ≤ S := Nat.le_of_dvd s0 (by have := Int.natAbs_dvd_natAbs.mpr hm.dv; exact this)
  have m1 : 0 < m.1.natAbs := by omega
  refine ⟨ne, ?_, by rw [qR_div hp.fr.ne ne hm.fr.ne, ep, em]⟩
  have d1 : p.2 ∣ ((dK * d : Nat) : Int) := Int.dvd_trans hp.dv (Int.natCast_dvd_natCast.mpr (Nat.mul_dvd_mul_right (dvd48 s0 s16) d))
  have d2 : m.1 ∣ ((dK : Nat) : Int) := Int.natAbs_dvd.mp (Int.natCast_dvd_natCast.mpr (dvd48 m1 (by omega)))
  obtain ⟨u, eu⟩ := d1
  obtain ⟨v, ev⟩ := d2
  refine nb_rat (m := p.1 * m.2 * (u * v)) (Int.mul_ne_zero hp.fr.ne ne) ?_ ?_
  · rw [Int.natAbs_mul, Int.natAbs_mul]
    have a := hp.nb
    calc p.1.natAbs * m.2.natAbs ≤ (Bw * B * p.2.natAbs) * 48 := Nat.mul_le_mul a (by omega)
      _ = Bw * B * 48 * (p.2.natAbs * 1) := by rw [Nat.mul_one, Nat.mul_right_comm]
      _ ≤ Bw * B * 48 * (p.2.natAbs * m.1.natAbs) := Nat.mul_le_mul_left _ (Nat.mul_le_mul_left _ m1)
  · have e1 : ((dK * d * dK : Nat) : Int) = ((dK * d : Nat) : Int) * ((dK : Nat) : Int) := Int.natCast_mul _ _
    rw [e1, eu, ev]
    simp only [Int.mul_assoc, Int.mul_comm, Int.mul_left_comm]
end Dl
namespace Dl
open PySem PySem.Spec PyProof.Rows L2
variable [TheW]
structure BaseOk (C : Cn) (S : Nat) (d : List Nat) (b : Pr) : Prop where
  nb : Nb S 1 b
  ex : ∃ Y : List Nat, (∀ i ∈ Y, i ∈ clX d) ∧ qR b = wnD C Y
structure TdOk (C : Cn) (k S dn bn : Nat) (d : List Nat) (T : Tb) : Prop where
  w : TbW (BaseOk C S d) dn bn T
  val : ∀ n, linB (fun b => qR b ^ n) T = fD ovr (idX k) C d n
structure CoinF (C : Cn) (k S : Nat) : Prop where
  len : ∀ r ∈ C, r.1.length = k
  pos : ∀ r ∈ C, 0 < qR r.2
  one : linC (fun _ => 1) C = 1
  s0 : 0 < S
  s16 : S ≤ 48
theorem wn_le1 {C : Cn} {k S : Nat} (f : CoinF C k S) (cs : List Nat) : wnD C cs ≤ 1 := by
  have z : 0 ≤ linC (fun x => 1 - (if ∀ i ∈ clX x, i ∈ cs then (1 : Rat) else 0)) C := linC_nonneg (fun x => by split <;> grind) fun r hr => by have := f.pos r hr; grind
  rw [linC_minus (φ := fun _ => 1), f.one] at z
  unfold wnD
  grind
theorem BaseOk.lo {C : Cn} {k S : Nat} {d : List Nat} {b : Pr} (f : CoinF C k S) (h : BaseOk C S d b) : 0 ≤ qR b := by
  obtain ⟨Y, _, e⟩ := h.ex
  rw [e]; exact wn_nonneg f.pos Y
def tbR (T : Tb) : List (Rat × Rat) := T.map fun q => (qR q.1, qR q.2)
def entL (o : Pr) (w : List Nat → Pr) (T : List Nat → Tb) (ps : List (List Nat)) : List (Pr × Pr) := ps.flatMap fun p => if w p = (0, 1) then [] else (T p).map fun q => (q.1, shrP (w p) q.2 q.1 o)
structure StepH (C : Cn) (k S dn bn : Nat) (d : List Nat) (o : Pr) (w : List Nat → Pr) (T : List Nat → Tb) (ps : List (List Nat)) : Prop where
  f : CoinF C k S
  hd : d.length = k
  nd : ps.Nodup
  hp : ∀ p, p ∈ ps ↔ p.Sublist (clX d) ∧ p ≠ clX d
  o1 : Nb S 1 o
  oe : qR o = wnD C (clX d)
  w1 : ∀ p ∈ ps, Nb S 1 (w p)
  we : ∀ p ∈ ps, qR (w p) = wtD C d (onX d p)
  td : ∀ p ∈ ps, w p ≠ (0, 1) → TdOk C k S dn bn (onX d p) (T p)
section
variable {C : Cn} {k S dn bn : Nat} {d : List Nat} {o : Pr} {w : List Nat → Pr} {T : List Nat → Tb} {ps : List (List Nat)}
theorem StepH.base (h : StepH C k S dn bn d o w T ps) {p : List Nat} (hp : p ∈ ps) (z : w p ≠ (0, 1)) {t : Pr × Pr} (ht : t ∈ T p) : BaseOk C S d t.1 ∧ 0 ≤ qR t.1 ∧ qR t.1 < qR o := by
  have b := (h.td p hp z).w.dk t ht
  obtain ⟨Y, y1, y2⟩ := b.ex
  obtain ⟨s1, s2⟩ := (h.hp p).mp hp
  have y3 : ∀ i ∈ Y, i ∈ p := fun i hi => (cl_onX.mp (y1 i hi)).1
  refine ⟨⟨b.nb, Y, fun i hi => s1.subset (y3 i hi), y2⟩, b.lo h.f, ?_⟩
  rw [y2, h.oe]
  exact base_lt h.f.len h.f.pos h.hd s1 s2 y3 fun e => qR_ne0 (h.w1 p hp).fr z ((h.we p hp).trans e)
theorem StepH.o_le (h : StepH C k S dn bn d o w T ps) : qR o ≤ 1 := by rw [h.oe]; exact wn_le1 h.f _
theorem StepH.own (h : StepH C k S dn bn d o w T ps) : BaseOk C S d o := ⟨h.o1, clX d, fun i hi => hi, h.oe⟩
theorem StepH.shr (h : StepH C k S dn bn d o w T ps) {p : List Nat} (hp : p ∈ ps) (z : w p ≠ (0, 1)) {t : Pr × Pr} (ht : t ∈ T p) : (fSub t.1 o).1 ≠ 0 ∧ Nb (dK * dn * dK) (bn * 48) (shrP (w p) t.2 t.1 o) ∧ qR (shrP (w p) t.2 t.1 o) = qR (w p) * qR t.2 / (qR t.1 - qR o) := by
  obtain ⟨b1, b2, b3⟩ := h.base hp z ht
  have := shr_ok h.f.s0 h.f.s16 (h.w1 p hp) ((h.td p hp z).w.sh t ht) b1.nb h.o1 b2 b3 h.o_le
  rwa [Nat.one_mul] at this
theorem StepH.sum (h : StepH C k S dn bn d o w T ps) (n : Nat) : ((entL o w T ps).map fun q => qR q.2 * qR q.1 ^ n - qR q.2 * qR o ^ n).sum = ((feed (fun p => wtD C d (onX d p)) (fun p => tbR (T p)) ps).map fun q => q.2 / (q.1 - qR o) * q.1 ^ n - q.2 / (q.1 - qR o) * qR o ^ n).sum := by
  have go : ∀ qs : List (List Nat), (∀ p ∈ qs, p ∈ ps) → ((entL o w T qs).map fun q => qR q.2 * qR q.1 ^ n - qR q.2 * qR o ^ n).sum = ((feed (fun p => wtD C d (onX d p)) (fun p => tbR (T p)) qs).map fun q => q.2 / (q.1 - qR o) * q.1 ^ n - q.2 / (q.1 - qR o) * qR o ^ n).sum := by
    intro qs
    induction qs with
    | nil => intro _; rfl
    | cons p qs ih =>
      intro hm
      have hp := hm p List.mem_cons_self
      have e1 : entL o w T (p :: qs) = (if w p = (0, 1) then [] else (T p).map fun q => (q.1, shrP (w p) q.2 q.1 o)) ++ entL o w T qs := rfl
      have e2 : feed (fun p => wtD C d (onX d p)) (fun p => tbR (T p)) (p :: qs) = (if wtD C d (onX d p) = 0 then [] else (tbR (T p)).map fun q => (q.1, wtD C d (onX d p) * q.2)) ++ feed (fun p => wtD C d (onX d p)) (fun p => tbR (T p)) qs := rfl
      rw [e1, e2, List.map_append, List.map_append, List.sum_append, List.sum_append, ih fun x hx => hm x (List.mem_cons_of_mem _ hx)]
      refine congrArg (· + _) ?_
      by_cases z : w p = (0, 1)
      · have z2 : wtD C d (onX d p) = 0 := by rw [← h.we p hp, z, qR_zero]
        rw [if_pos z, if_pos z2]; rfl
      · have z2 : wtD C d (onX d p) ≠ 0 := fun e => qR_ne0 (h.w1 p hp).fr z ((h.we p hp).trans e)
        rw [if_neg z, if_neg z2, List.map_map]
        unfold tbR
        rw [List.map_map, List.map_map]
        refine congrArg List.sum (List.map_congr_left fun t ht => ?_)
        obtain ⟨_, _, e⟩ := h.shr hp z ht
        show qR (shrP (w p) t.2 t.1 o) * qR t.1 ^ n - qR (shrP (w p) t.2 t.1 o) * qR o ^ n = wtD C d (onX d p) * qR t.2 / (qR t.1 - qR o) * qR t.1 ^ n - wtD C d (onX d p) * qR t.2 / (qR t.1 - qR o) * qR o ^ n
        rw [e, h.we p hp]
  exact go ps fun p hp => hp
end
end Dl
namespace Dl
open PySem PySem.Spec PyProof.Rows L2
variable [TheW]
theorem TbW.mono {P : Pr → Prop} {d d' B B' : Nat} {T : Tb} (h : TbW P d B T) (hd : d ∣ d') (hB : B ≤ B') : TbW P d' B' T := ⟨h.nd, h.dk, fun r hr => ((h.sh r hr).mono hB).den hd⟩
theorem TdOk.mono {C : Cn} {k S dn bn dn' bn' : Nat} {d : List Nat} {T : Tb} (h : TdOk C k S dn bn d T) (hd : dn ∣ dn') (hB : bn ≤ bn') : TdOk C k S dn' bn' d T := ⟨h.w.mono hd hB, h.val⟩
end Dl
namespace Dl
variable [TheW]
omit [TheW] in
def lq (φ : Rat → Rat) (l : List (Rat × Rat)) : Rat := (l.map fun q => q.2 * φ q.1).sum
end Dl
namespace Dl
variable [TheW]
abbrev lfB (ks : List Nat) (d : List Nat) : Bool := !decide (∀ i ∈ ks, i ∈ clX d)
abbrev toW (C : Cn) (y d : List Nat) : Rat := linC (fun x => if ovr y x = d then 1 else 0) C
def tl (T : List Nat → Tb) (N : Nat) (d : List Nat) : Rat := lq (fun b => b ^ N / (1 - b)) (tbR (T d))
section
variable {C : Cn} {k S : Nat} {ks : List Nat} {D : List (List Nat)} {T : List Nat → Tb}
abbrev unf (ks : List Nat) (D : List (List Nat)) : List (List Nat) := D.filter (lfB ks)
def rem (C : Cn) (ks : List Nat) (D : List (List Nat)) (T : List Nat → Tb) (n : Nat) (d : List Nat) : Rat := ((unf ks D).map fun y => tl T n y * toW C y d).sum
end
end Dl
namespace Dl
open PySem PySem.Spec PyProof.Rows L2
variable [TheW]
section
variable {X : Cx} {n : En} {tg tg1 : Expr} {pos : Pos} {g g1 : DG}
theorem psd_setLc2 {i : Nat} {y : Str} {py spos : Pos} {elt iter iter1 : Expr} {ifs ifs1 : List Expr} {scope : Scope} (own : List (Str × Nat)) (vs1 : List Nat) {wi wi1 : DI} {tt tt1 : DT} {te : DE} (hc : X.calm = true) (hN : X.N.Nodup) (hi : PID X n tg iter wi) (ok : BlkOk X.N X.env.scope scope own) (hv : ∀ i ∈ vs1, i ∈ own.map (·.2))
    (hg : BlkP X scope fun Y => PGW Y n tg (own.map (·.2)) g) (ht : BlkP X scope fun Y => PTsD Y n ifs tt) (hi1 : BlkP X scope fun Y => PID Y n tg1 iter1 wi1) (hg1 : BlkP X scope fun Y => PGW Y n tg1 vs1 g1) (ht1 : BlkP X scope fun Y => PTsD Y n ifs1 tt1) (he : BlkP X scope fun Y => PD Y n elt te)
    (hsw : swapsWith (.ListComp elt [⟨tg, iter, ifs, 0⟩, ⟨tg1, iter1, ifs1, 0⟩] scope pos) (some (.Name y py)) spos.line X.env = pure true) (hy : X.N[i]? = some y := by rfl) (hyl : X.env.scope.names.lookup y = some .local := by rfl)
    (hs : ∀ x, foldedSetIterable iter X.env x = pure x := by intro _; rfl) (hs1 : ∀ env x, foldedSetIterable iter1 env x = pure x := by intro _ _; rfl) :
    PSD X n (.Assign [.Name y py] (.ListComp elt [⟨tg, iter, ifs, 0⟩, ⟨tg1, iter1, ifs1, 0⟩] scope pos) spos) (wAsg (wLc2 wi g tt wi1 g1 tt1 te (own.map (·.2)) vs1) (gN i)) :=
  psd_of (ps_setLc2 hc hN hy hyl hsw hi.pi ok hv (blk_g hg) (blk_t ht) (blk_i hi1) (blk_g hg1) (blk_t ht1) (blk_e he) hs hs1) fun σ H F ρ st D R tk hw => lc2_sim (scope := scope) (k := fun x H1 => gName i x σ H1 (qD X n F ρ H D).nx) R tk hw fun v H' ⟨w', st', F', ρ', p, R', r, q⟩ => ⟨F', ρ', _, p, R'.set i r, q⟩
end
end Dl
namespace Dl
open PySem PySem.Spec PyProof.Rows L2
def keyT (e : Int × Value) : Str := match e.2 with | .str k _ => k | _ => default
def GoodT (w : World) (e : Int × Value) : Prop := ∃ k tk, e.2 = Value.str k tk ∧ e.1 = hashStr w k
def SetRT (w : World) (h : Heap) (a : Addr) (S : Str → Bool) (n : Nat) : Prop :=
  ∃ o es ep t, h.get? a = some o ∧ o.ExactSet ∧ o.data = .set es ep t ∧ (∀ e ∈ es.toList, GoodT w e) ∧ (es.toList.map keyT).Nodup ∧ (∀ k, S k = true ↔ k ∈ es.toList.map keyT) ∧
    es.size < scanBound ∧ t.fits es.size = true ∧ es.size = n ∧ Ris t.place.toList ∧ (w.params.followText "set-order" = true ∨ t.led = true)
section
variable {P : Program} {w : World} {h h' : Heap} {a : Addr} {S : Str → Bool} {n : Nat}
theorem SetRT.at (R : SetRT w h a S n) (k : ∀ o, h.get? a = some o → h'.get? a = some o) : SetRT w h' a S n := by
  obtain ⟨o, es, ep, t, ho, r⟩ := R
  exact ⟨o, es, ep, t, k o ho, r⟩
theorem SetRT.lt (R : SetRT w h a S n) : a < h.objs.size := by
  obtain ⟨o, es, ep, t, ho, r⟩ := R
  exact Heap.lt_size ho
end
end Dl
namespace Dl
open PySem
def tameF : Frame → Frame
  | .gen _ _ l c p => .ret (fun _ => .unsupported "") none false l c p []
  | f => f
def lame : GenState → GenState
  | .suspended _ l c p fs cl => .suspended (fun _ => .unsupported "") l c p (fs.map tameF) cl
  | x => x
def asleep : GenState → Bool
  | .suspended .. => true
  | _ => false
theorem tame_where (f : Frame) : (tameF f).where_ = f.where_ := by cases f <;> rfl
theorem tame_split : ∀ fs : List Frame, splitAtGen (fs.map tameF) = none
  | [] => rfl
  | .gen g k l c p :: fs => by
    show (splitAtGen (fs.map tameF)).map _ = none
    rw [tame_split fs]; rfl
  | .ret k h g l c p kp :: fs => by
    show (splitAtGen (fs.map tameF)).map _ = none
    rw [tame_split fs]; rfl
theorem lame_seen (x : GenState) : (lame x).seen = x.seen := by
  cases x with
  | suspended k l c p fs cl =>
    show (GenStatus.suspended, some ((c, p) :: (fs.map tameF).map Frame.where_)) = (GenStatus.suspended, some ((c, p) :: fs.map Frame.where_))
    rw [List.map_map]
    have e : (Frame.where_ ∘ tameF) = Frame.where_ := funext tame_where
    rw [e]
  | _ => rfl
theorem lame_bare (x : GenState) : (lame x).bare = x.bare := by cases x <;> rfl
structure Asl (D : Nat → Option GenState) (x y : Array GenState) : Prop where
  size : x.size = y.size
  dead : ∀ i st, D i = some st → asleep st = true ∧ x[i]? = some (lame st) ∧ y[i]? = some st
  same : ∀ i, D i = none → x[i]? = y[i]?
def Tame (x : Array GenState) : Prop := ∀ (i : Nat) (k : Resume → Sem Fin) (l : List Value) (c : Code) (p : Pos) (fs : List Frame) (cl : Bool), x[i]? = some (.suspended k l c p fs cl) → splitAtGen fs = none
def TameE : End → Prop
  | .susp _ _ _ _ _ _ fs => splitAtGen fs = none
  | .ret _ => True
section
variable {D : Nat → Option GenState} {x y : Array GenState} {g : Nat} {st : GenState} {M : Model}
theorem no_unsup {Γ : Ctx} {p : Pos} {w : String} {fs : List Frame} {s s' : Shared} {e : End} (h : Runs M Γ p (.unsupported w) fs s e s') : False := by
  generalize ht : (Sem.unsupported w : Sem Fin) = t at h
  induction h with
  | segRet _ _ ih1 _ => exact ih1 ht
  | segGen _ _ ih1 _ => exact ih1 ht
  | segSuspOut _ _ ih1 => exact ih1 ht
  | segSuspGen _ _ _ _ ih1 _ => exact ih1 ht
  | _ => cases ht
theorem set_get {a : Array GenState} {i g : Nat} : (a.setIfInBounds g st)[i]? = if g = i then (if g < a.size then some st else none) else a[i]? := by
  by_cases h : g = i
  · subst h
    by_cases hs : g < a.size <;> simp [hs]
  · simp [h, Array.getElem?_setIfInBounds_ne h]
theorem Asl.set (h : Asl D x y) (hg : D g = none) : Asl D (x.setIfInBounds g st) (y.setIfInBounds g st) where
  size := by simp [h.size]
  dead := fun i st' e => by
    have ne : g ≠ i := fun z => by subst z; rw [hg] at e; cases e
    obtain ⟨h1, h2, h3⟩ := h.dead i st' e
    exact ⟨h1, by rw [set_get, if_neg ne]; exact h2, by rw [set_get, if_neg ne]; exact h3⟩
  same := fun i e => by rw [set_get, set_get, h.size, h.same i e]
theorem Asl.push (h : Asl D x y) : Asl D (x.push st) (y.push st) where
  size := by simp [h.size]
  dead := fun i st' e => by
    obtain ⟨h1, h2, h3⟩ := h.dead i st' e
    have l1 : i < x.size := (Array.getElem?_eq_some_iff.mp h2).1
    have l2 : i < y.size := (Array.getElem?_eq_some_iff.mp h3).1
    exact ⟨h1, by rw [Array.getElem?_push_lt l1]; rw [Array.getElem?_eq_getElem l1] at h2; exact h2, by rw [Array.getElem?_push_lt l2]; rw [Array.getElem?_eq_getElem l2] at h3; exact h3⟩
  same := fun i e => by
    rw [Array.getElem?_push, Array.getElem?_push, h.size, h.same i e]
theorem Tame.set (h : Tame x) (hs : ∀ k l c p fs cl, st = .suspended k l c p fs cl → splitAtGen fs = none) : Tame (x.setIfInBounds g st) := fun i k l c p fs cl e => by
  rw [set_get] at e
  split at e
  · split at e
    · cases e; exact hs _ _ _ _ _ _ rfl
    · cases e
  · exact h i k l c p fs cl e
theorem Tame.push (h : Tame x) (hs : ∀ k l c p fs cl, st = .suspended k l c p fs cl → splitAtGen fs = none) : Tame (x.push st) := fun i k l c p fs cl e => by
  rw [Array.getElem?_push] at e
  split at e
  · cases e; exact hs _ _ _ _ _ _ rfl
  · exact h i k l c p fs cl e
theorem Asl.none_of (h : Asl D x y) (e : x[g]? = some st) (hs : asleep st = false) : D g = none := by
  cases q : D g with
  | none => rfl
  | some st' =>
    obtain ⟨h1, h2, _⟩ := h.dead g st' q
    rw [e] at h2
    cases h2
    cases st' <;> first | (cases hs; done) | (cases h1; done) | exact absurd hs (by simp [lame, asleep])
theorem Asl.seen (h : Asl D x y) (e : x[g]? = some st) : ∃ st', y[g]? = some st' ∧ st'.seen = st.seen := by
  cases q : D g with
  | none => exact ⟨st, by rw [← h.same g q]; exact e, rfl⟩
  | some st' =>
    obtain ⟨_, h2, h3⟩ := h.dead g st' q
    rw [e] at h2
    cases h2
    exact ⟨st', h3, (lame_seen st').symm⟩
theorem Asl.at (h : Asl D x y) (e : x[g]? = some st) (hs : asleep st = false) : D g = none ∧ y[g]? = some st := by
  have q := h.none_of e hs
  exact ⟨q, by rw [← h.same g q]; exact e⟩
theorem Asl.susp {k : Resume → Sem Fin} {l : List Value} {c : Code} {p : Pos} {fs : List Frame} {cl : Bool} (h : Asl D x y) (e : x[g]? = some (.suspended k l c p fs cl)) :
    (∀ r, k r = .unsupported "") ∨ (D g = none ∧ y[g]? = some (.suspended k l c p fs cl)) := by
  cases q : D g with
  | none => exact .inr ⟨rfl, by rw [← h.same g q]; exact e⟩
  | some st' =>
    obtain ⟨h1, h2, h3⟩ := h.dead g st' q
    rw [e] at h2
    cases st' with
    | suspended k1 l1 c1 p1 fs1 cl1 => cases h2; exact .inl fun _ => rfl
    | _ => cases h2
theorem split_append : ∀ {a b : List Frame}, splitAtGen a = none → splitAtGen b = none → splitAtGen (a ++ b) = none
  | [], b, _, h => h
  | .gen g k l c p :: a, b, h, _ => by cases h
  | .ret k h' g l c p kp :: a, b, h, hb => by
    have q : (splitAtGen a).map (fun (x : List Frame × (Nat × (GenResult → Sem Fin) × Code × Pos) × List Frame) => (Frame.ret k h' g l c p kp :: x.1, x.2.1, x.2.2)) = none := h
    have q2 : splitAtGen a = none := by
      cases e : splitAtGen a with
      | none => rfl
      | some v => rw [e] at q; cases q
    show (splitAtGen (a ++ b)).map _ = none
    rw [split_append q2 hb]; rfl
theorem split_tail {F : Frame} {fs : List Frame} (h : splitAtGen (F :: fs) = none) : splitAtGen fs = none := by
  cases F with
  | gen => cases h
  | ret k h' g l c p kp =>
    have q : (splitAtGen fs).map (fun (x : List Frame × (Nat × (GenResult → Sem Fin) × Code × Pos) × List Frame) => (Frame.ret k h' g l c p kp :: x.1, x.2.1, x.2.2)) = none := h
    cases e : splitAtGen fs with
    | none => rfl
    | some v => rw [e] at q; cases q
theorem tameE_state {e : End} (h : TameE e) : ∀ k l c p fs cl, e.genState = .suspended k l c p fs cl → splitAtGen fs = none := by
  intro k l c p fs cl q
  cases e with
  | ret r => cases q
  | susp v g l' k' c' p' fs' => cases q; exact h
theorem runs_asleep {Γ : Ctx} {p : Pos} {t : Sem Fin} {fs : List Frame} {s s' : Shared} {e : End} (h : Runs M Γ p t fs s e s') :
    splitAtGen fs = none → Tame s.gens → ∀ G, Asl D s.gens G → TameE e ∧ Tame s'.gens ∧ ∃ G', Asl D s'.gens G' ∧ Runs M Γ p t fs { s with gens := G } e { s' with gens := G' } := by
  induction h with
  | done => intro _ ht G hG; exact ⟨trivial, ht, G, hG, .done⟩
  | raise => intro _ ht G hG; exact ⟨trivial, ht, G, hG, .raise⟩
  | again hq _ ih => intro hf ht G hG; obtain ⟨a, b, G', c, d⟩ := ih rfl ht G hG; exact ⟨a, b, G', c, .again hq d⟩
  | rule _ ih => intro hf ht G hG; obtain ⟨a, b, G', c, d⟩ := ih rfl ht G hG; exact ⟨a, b, G', c, .rule d⟩
  | «at» _ ih => intro hf ht G hG; obtain ⟨a, b, G', c, d⟩ := ih rfl ht G hG; exact ⟨a, b, G', c, .at d⟩
  | load ho _ ih => intro hf ht G hG; obtain ⟨a, b, G', c, d⟩ := ih rfl ht G hG; exact ⟨a, b, G', c, .load ho d⟩
  | update ho _ ih => intro hf ht G hG; obtain ⟨a, b, G', c, d⟩ := ih rfl ht G hG; exact ⟨a, b, G', c, .update ho d⟩
  | loadIfAlive _ ih => intro hf ht G hG; obtain ⟨a, b, G', c, d⟩ := ih rfl ht G hG; exact ⟨a, b, G', c, .loadIfAlive d⟩
  | point _ ih => intro hf ht G hG; obtain ⟨a, b, G', c, d⟩ := ih rfl ht G hG; exact ⟨a, b, G', c, .point d⟩
  | alloc _ ih => intro hf ht G hG; obtain ⟨a, b, G', c, d⟩ := ih rfl ht G hG; exact ⟨a, b, G', c, .alloc d⟩
  | fresh _ ih => intro hf ht G hG; obtain ⟨a, b, G', c, d⟩ := ih rfl ht G hG; exact ⟨a, b, G', c, .fresh d⟩
  | ask _ ih => intro hf ht G hG; obtain ⟨a, b, G', c, d⟩ := ih rfl ht G hG; exact ⟨a, b, G', c, .ask d⟩
  | choose hn _ ih => intro hf ht G hG; obtain ⟨a, b, G', c, d⟩ := ih rfl ht G hG; exact ⟨a, b, G', c, .choose hn d⟩
  | os _ ih => intro hf ht G hG; obtain ⟨a, b, G', c, d⟩ := ih rfl ht G hG; exact ⟨a, b, G', c, .os d⟩
  | handled _ ih => intro hf ht G hG; obtain ⟨a, b, G', c, d⟩ := ih rfl ht G hG; exact ⟨a, b, G', c, .handled d⟩
  | stack _ ih => intro hf ht G hG; obtain ⟨a, b, G', c, d⟩ := ih rfl ht G hG; exact ⟨a, b, G', c, .stack d⟩
  | thread _ ih => intro hf ht G hG; obtain ⟨a, b, G', c, d⟩ := ih rfl ht G hG; exact ⟨a, b, G', c, .thread d⟩
  | genState hg _ ih =>
    intro hf ht G hG
    obtain ⟨a, b, G', c, d⟩ := ih rfl ht G hG
    obtain ⟨st', h3, h4⟩ := hG.seen hg
    rw [← h4] at d
    exact ⟨a, b, G', c, Runs.genState (M := M) h3 d⟩
  | newGen _ ih =>
    intro hf ht G hG
    obtain ⟨a, b, G', c', d⟩ := ih rfl (ht.push fun _ _ _ _ _ _ z => nomatch z) _ hG.push
    refine ⟨a, b, G', c', .newGen ?_⟩
    have e := hG.size
    rw [e] at d
    exact d
  | call _ _ ih1 ih2 =>
    intro hf ht G hG
    obtain ⟨_, b1, G1, c1, d1⟩ := ih1 rfl ht G hG
    obtain ⟨a, b, G', c, d⟩ := ih2 rfl b1 G1 c1
    exact ⟨a, b, G', c, .call d1 d⟩
  | callSusp _ ih =>
    intro hf ht G hG
    obtain ⟨a, b, G', c, d⟩ := ih rfl ht G hG
    exact ⟨split_append a rfl, b, G', c, .callSusp d⟩
  | yield => intro hf ht G hG; exact ⟨rfl, ht, G, hG, .yield⟩
  | resumeFresh hg _ hq _ ih1 ih2 =>
    intro hf ht G hG
    obtain ⟨q, hgy⟩ := hG.at hg rfl
    obtain ⟨a1, b1, G1, c1, d1⟩ := ih1 rfl (ht.set fun _ _ _ _ _ _ z => nomatch z) _ (hG.set q)
    obtain ⟨a, b, G', c, d⟩ := ih2 rfl (b1.set (tameE_state a1)) _ (c1.set q)
    exact ⟨a, b, G', c, Runs.resumeFresh (M := M) hgy d1 hq d⟩
  | resumeSuspended hg h1 hq _ ih1 ih2 =>
    intro hf ht G hG
    rcases hG.susp hg with dead | ⟨q, hgy⟩
    · rw [dead] at h1
      exact (no_unsup h1).elim
    · obtain ⟨a1, b1, G1, c1, d1⟩ := ih1 (ht _ _ _ _ _ _ _ hg) (ht.set fun _ _ _ _ _ _ z => nomatch z) _ (hG.set q)
      obtain ⟨a, b, G', c, d⟩ := ih2 rfl (b1.set (tameE_state a1)) _ (c1.set q)
      exact ⟨a, b, G', c, Runs.resumeSuspended (M := M) hgy d1 hq d⟩
  | resumeJustStarted hg hv _ ih =>
    intro hf ht G hG
    obtain ⟨q, hgy⟩ := hG.at hg rfl
    obtain ⟨a, b, G', c, d⟩ := ih rfl ht G hG
    exact ⟨a, b, G', c, Runs.resumeJustStarted (M := M) hgy hv d⟩
  | resumeThrowFresh hg _ ih =>
    intro hf ht G hG
    obtain ⟨q, hgy⟩ := hG.at hg rfl
    obtain ⟨a, b, G', c, d⟩ := ih rfl (ht.set fun _ _ _ _ _ _ z => nomatch z) _ (hG.set q)
    exact ⟨a, b, G', c, Runs.resumeThrowFresh (M := M) hgy d⟩
  | resumeRunning hg _ ih =>
    intro hf ht G hG
    obtain ⟨q, hgy⟩ := hG.at hg rfl
    obtain ⟨a, b, G', c, d⟩ := ih rfl ht G hG
    exact ⟨a, b, G', c, Runs.resumeRunning (M := M) hgy d⟩
  | resumeFinished hg _ ih =>
    intro hf ht G hG
    obtain ⟨q, hgy⟩ := hG.at hg rfl
    obtain ⟨a, b, G', c, d⟩ := ih rfl ht G hG
    exact ⟨a, b, G', c, Runs.resumeFinished (M := M) hgy d⟩
  | segRet _ _ ih1 ih2 =>
    intro hf ht G hG
    obtain ⟨_, b1, G1, c1, d1⟩ := ih1 rfl ht G hG
    obtain ⟨a, b, G', c, d⟩ := ih2 (split_tail hf) b1 G1 c1
    exact ⟨a, b, G', c, .segRet d1 d⟩
  | segGen => intro hf; cases hf
  | segSuspOut hs _ ih =>
    intro hf ht G hG
    obtain ⟨a, b, G', c, d⟩ := ih rfl ht G hG
    exact ⟨split_append a hf, b, G', c, .segSuspOut hs d⟩
  | segSuspGen hs => intro hf; rw [hf] at hs; cases hs
section
variable {Γ : Ctx} {p : Pos} {r : Resume} {s s1 : Shared} {c : Code} {e1 : End} {x : Value}
theorem wakes_fresh (e : s.gens[g]? = some (.fresh c)) (h : Runs M (Γ.wake c p) p (M.den c) [] (s.setGen g .running) e1 s1) (hq : e1.quiet = true) : Wakes M Γ p g (.send .none) s e1.result (s1.setGen g e1.genState) := by
  unfold Wakes; rw [e]; exact ⟨_, _, h, hq, rfl, rfl⟩
theorem wakes_just (e : s.gens[g]? = some (.fresh c)) (hv : x ≠ .none) : Wakes M Γ p g (.send x) s .justStarted s := by
  unfold Wakes; rw [e]
  cases x <;> first | exact ⟨rfl, rfl⟩ | exact (hv rfl).elim
theorem wakes_throw (e : s.gens[g]? = some (.fresh c)) : Wakes M Γ p g (.throw x) s (.raised x) (s.setGen g .finished) := by
  unfold Wakes; rw [e]; exact ⟨rfl, rfl⟩
theorem wakes_susp {k : Resume → Sem Fin} {l : List Value} {q : Pos} {fs : List Frame} {cl : Bool} (e : s.gens[g]? = some (.suspended k l c q fs cl)) (h : Runs M (Γ.wake c p) q (k r) fs (s.setGen g .running) e1 s1) (hq : e1.quiet = true) : Wakes M Γ p g r s e1.result (s1.setGen g e1.genState) := by
  unfold Wakes; rw [e]; exact ⟨_, _, h, hq, rfl, rfl⟩
theorem wakes_running (e : s.gens[g]? = some .running) : Wakes M Γ p g r s .running s := by
  unfold Wakes; rw [e]; exact ⟨rfl, rfl⟩
theorem wakes_finished (e : s.gens[g]? = some .finished) : Wakes M Γ p g r s .finished s := by
  unfold Wakes; rw [e]; exact ⟨rfl, rfl⟩
end
theorem wakes_asleep {Γ : Ctx} {p : Pos} {g : Nat} {r : Resume} {s s' : Shared} {res : GenResult} (h : Wakes M Γ p g r s res s') (ht : Tame s.gens) (G : Array GenState) (hG : Asl D s.gens G) :
    Tame s'.gens ∧ ∃ G', Asl D s'.gens G' ∧ Wakes M Γ p g r { s with gens := G } res { s' with gens := G' } := by
  cases hg : s.gens[g]? with
  | none => unfold Wakes at h; rw [hg] at h; exact h.elim
  | some st =>
    cases st with
    | fresh c =>
      obtain ⟨q, hgy⟩ := hG.at hg rfl
      cases r with
      | throw x =>
        have h : res = .raised x ∧ s' = s.setGen g .finished := by
          unfold Wakes at h; rw [hg] at h; exact h
        obtain ⟨rfl, rfl⟩ := h
        exact ⟨ht.set (fun _ _ _ _ _ _ z => nomatch z), _, hG.set q, wakes_throw (s := { s with gens := G }) hgy⟩
      | send v =>
        by_cases hv : v = .none
        · subst hv
          have h : ∃ e₁ s₁, Runs M (Γ.wake c p) p (M.den c) [] (s.setGen g .running) e₁ s₁ ∧ e₁.quiet = true ∧ res = e₁.result ∧ s' = s₁.setGen g e₁.genState := by
            unfold Wakes at h; rw [hg] at h; exact h
          obtain ⟨e₁, s₁, hr, hq, rfl, rfl⟩ := h
          obtain ⟨a1, b1, G1, c1, d1⟩ := runs_asleep hr rfl (ht.set fun _ _ _ _ _ _ z => nomatch z) _ (hG.set q)
          exact ⟨b1.set (tameE_state a1), _, c1.set q, wakes_fresh (s := { s with gens := G }) (s1 := { s₁ with gens := G1 }) hgy d1 hq⟩
        · have z : res = .justStarted ∧ s' = s := by
            unfold Wakes at h; rw [hg] at h
            cases v <;> first | exact h | exact (hv rfl).elim
          obtain ⟨rfl, rfl⟩ := z
          exact ⟨ht, G, hG, wakes_just (s := { s' with gens := G }) hgy hv⟩
    | suspended k₀ l₀ c₀ p₀ fs cl =>
      unfold Wakes at h; rw [hg] at h
      obtain ⟨e₁, s₁, hr, hq, rfl, rfl⟩ := h
      rcases hG.susp hg with dead | ⟨q, hgy⟩
      · rw [dead] at hr
        exact (no_unsup hr).elim
      · obtain ⟨a1, b1, G1, c1, d1⟩ := runs_asleep hr (ht _ _ _ _ _ _ _ hg) (ht.set fun _ _ _ _ _ _ z => nomatch z) _ (hG.set q)
        exact ⟨b1.set (tameE_state a1), _, c1.set q, wakes_susp (s := { s with gens := G }) (s1 := { s₁ with gens := G1 }) hgy d1 hq⟩
    | running =>
      unfold Wakes at h; rw [hg] at h
      obtain ⟨q, hgy⟩ := hG.at hg rfl
      obtain ⟨rfl, rfl⟩ := h
      exact ⟨ht, G, hG, wakes_running (s := { s' with gens := G }) hgy⟩
    | finished =>
      unfold Wakes at h; rw [hg] at h
      obtain ⟨q, hgy⟩ := hG.at hg rfl
      obtain ⟨rfl, rfl⟩ := h
      exact ⟨ht, G, hG, wakes_finished (s := { s' with gens := G }) hgy⟩
theorem wp_asleep {α : Type} (M : Model) (Γ : Ctx) (t : Sem α) : ∀ (Q : α → Pos → Shared → Prop) (E : Value → Pos → Shared → Prop) (p : Pos) (s : Shared) (G : Array GenState), Tame s.gens → Asl D s.gens G → Sem.wp M Γ t Q E p s →
    Sem.wp M Γ t (fun a p' s' => ∃ x, Tame x ∧ Asl D x s'.gens ∧ Q a p' { s' with gens := x }) (fun e p' s' => ∃ x, Tame x ∧ Asl D x s'.gens ∧ E e p' { s' with gens := x }) p { s with gens := G } := by
  induction t with
  | pure a => intro Q E p s G ht hG h; exact ⟨s.gens, ht, hG, h⟩
  | raise e => intro Q E p s G ht hG h; exact ⟨s.gens, ht, hG, h⟩
  | unsupported _ => intro Q E p s G ht hG h; exact h
  | finish _ => intro Q E p s G ht hG h; exact h
  | rule _ k ih => intro Q E p s G ht hG h; exact ih () Q E p s G ht hG h
  | «at» p' k ih => intro Q E p s G ht hG h; exact ih () Q E p' s G ht hG h
  | load a _ k ih => intro Q E p s G ht hG h; obtain ⟨o, ho, h⟩ := h; exact ⟨o, ho, ih o Q E p s G ht hG h⟩
  | update a _ f k ih => intro Q E p s G ht hG h; exact ⟨h.1, ih () Q E p { s with heap := s.heap.update a f } G ht hG h.2⟩
  | loadIfAlive a k ih => intro Q E p s G ht hG h; exact ih _ Q E p s G ht hG h
  | point _ k ih => intro Q E p s G ht hG h; exact ih () Q E p s G ht hG h
  | register _ _ => intro Q E p s G ht hG h; exact h
  | alloc o k ih => intro Q E p s G ht hG h; exact ih _ Q E p { s with heap := s.heap.push o } G ht hG h
  | fresh k ih => intro Q E p s G ht hG h; exact ih _ Q E p { s with toks := s.toks + 1 } G ht hG h
  | ask k ih => intro Q E p s G ht hG h; exact ih _ Q E p s G ht hG h
  | choose src m k ih => intro Q E p s G ht hG h; exact ⟨h.1, ih _ Q E p { s with drawn := s.drawn.bump src } G ht hG h.2⟩
  | os q _ k ih => intro Q E p s G ht hG h; exact ih _ Q E p { s with os := (Os.step s.os q).1 } G ht hG h
  | call c hd _ _ k ih =>
    intro Q E p s G ht hG h; obtain ⟨r, s', hr, h⟩ := h
    obtain ⟨_, b, G', c', d⟩ := runs_asleep hr rfl ht G hG
    exact ⟨r, { s' with gens := G' }, d, ih r Q E p s' G' b c' h⟩
  | handled own k ih => intro Q E p s G ht hG h; exact ih _ Q E p s G ht hG h
  | genState g k ih =>
    intro Q E p s G ht hG h; obtain ⟨st, hs, h⟩ := h
    obtain ⟨st', h3, h4⟩ := hG.seen hs
    rw [← h4] at h
    exact ⟨st', h3, ih _ Q E p s G ht hG h⟩
  | newGen c k ih =>
    intro Q E p s G ht hG h
    have e : s.gens.size = G.size := hG.size
    have z := ih _ Q E p { s with gens := s.gens.push (.fresh c) } (G.push (.fresh c)) (ht.push fun _ _ _ _ _ _ z => nomatch z) hG.push h
    rw [e] at z
    exact z
  | resume g r _ k ih =>
    intro Q E p s G ht hG h; obtain ⟨res, s', hw, h⟩ := h
    obtain ⟨b, G', c', d⟩ := wakes_asleep hw ht G hG
    exact ⟨res, { s' with gens := G' }, d, ih res Q E p s' G' b c' h⟩
  | yield _ _ _ _ => intro Q E p s G ht hG h; exact h
  | stack k ih => intro Q E p s G ht hG h; exact ih _ Q E p s G ht hG h
  | fork _ _ => intro Q E p s G ht hG h; exact h
  | thread k ih => intro Q E p s G ht hG h; exact ih _ Q E p s G ht hG h
  | await _ _ _ _ _ => intro Q E p s G ht hG h; exact h
end
def lameAll (x : Array GenState) : Array GenState := x.map lame
def sleepers (x : Array GenState) : Nat → Option GenState := fun i => match x[i]? with
  | some st => if asleep st = true then some st else none
  | none => none
theorem asl_lameAll (x : Array GenState) : Asl (sleepers x) (lameAll x) x where
  size := by simp [lameAll]
  dead := fun i st e => by
    unfold sleepers at e
    split at e
    · rename_i st' hx
      split at e
      · rename_i hs
        cases e
        refine ⟨hs, ?_, hx⟩
        simp [lameAll, hx]
      · cases e
    · cases e
  same := fun i e => by
    unfold sleepers at e
    split at e
    · rename_i st' hx
      split at e
      · cases e
      · rename_i hs
        simp only [lameAll, Array.getElem?_map, hx, Option.map_some]
        cases st' <;> first | rfl | exact absurd rfl hs
    · rename_i hx
      simp [lameAll, hx]
theorem tame_lameAll (x : Array GenState) : Tame (lameAll x) := fun i k l c p fs cl e => by
  simp only [lameAll, Array.getElem?_map] at e
  cases hx : x[i]? with
  | none => rw [hx] at e; cases e
  | some st =>
    rw [hx] at e
    cases st with
    | suspended k1 l1 c1 p1 fs1 cl1 => cases e; exact tame_split fs1
    | _ => cases e
theorem wpAny_asleep {α : Type} {M : Model} {A : Around} {t : Sem α} {Q : α → Shared → Prop} {E : Value → Shared → Prop} {s : Shared} (h : wpAny M A t Q E { s with gens := lameAll s.gens }) :
    wpAny M A t (fun a s' => ∃ x, Asl (sleepers s.gens) x s'.gens ∧ Q a { s' with gens := x }) (fun e s' => ∃ x, Tame x ∧ Asl (sleepers s.gens) x s'.gens ∧ E e { s' with gens := x }) s := fun Γ p hΓ => by
  have z := wp_asleep (D := sleepers s.gens) M Γ t _ _ p { s with gens := lameAll s.gens } s.gens (tame_lameAll _) (asl_lameAll _) (h Γ p hΓ)
  exact Sem.wp_mono M Γ t (fun a p' s' h => let ⟨x, _, h1, h2⟩ := h; ⟨x, h1, h2⟩) (fun a p' s' h => h) _ _ z
end Dl
namespace Dl
open PySem PySem.Spec PyProof.Rows L2 GenW
def FSeg (M : Model) (A : Around) (R : Result → Shared → Prop) (Y : Value → Shared → (Resume → Sem PySem.Fin) → Code → List Frame → Prop) (c : Code) (t : Sem PySem.Fin) (fs : List Frame) (s : Shared) : Prop :=
  ∀ Γ p, Γ.code = c → Γ.Woken A → ∃ e s', Runs M Γ p t fs s e s' ∧ (match e with
    | .ret r => R r s'
    | .susp v g l k c p fs => (End.susp v g l k c p fs).quiet = true ∧ Y v s' k c fs)
section
variable {M : Model} {A : Around} {R : Result → Shared → Prop} {Y : Value → Shared → (Resume → Sem PySem.Fin) → Code → List Frame → Prop} {c : Code} {fs : List Frame} {s : Shared}
theorem fseg_wrap {α : Type} {m : Sem α} {K : α → Sem PySem.Fin} {H : Value → Sem PySem.Fin} {gd lv}
    (h : wpAny M (A.over c fs) m (fun a s' => FSeg M A R Y c (K a) fs s') (fun x s' => FSeg M A R Y c (H x) fs s') s) : FSeg M A R Y c (m.wrap K H gd lv) fs s := by
  rintro Γ p rfl hΓ
  exact runs_wrap_of_wp K H gd lv m (h (Γ.over fs) p (hΓ.over fs)) (fun a p' s' h' => h' Γ p' rfl hΓ) (fun x p' s' h' => h' Γ p' rfl hΓ)
theorem fseg_bind {α : Type} {m : Sem α} {K : α → Sem PySem.Fin}
    (h : wpAny M (A.over c fs) m (fun a s' => FSeg M A R Y c (K a) fs s') (fun x s' => FSeg M A R Y c (.raise x) fs s') s) : FSeg M A R Y c (m >>= K) fs s := by
  rw [Sem.bind_eq_wrap']; exact fseg_wrap h
theorem fseg_bind_wrap {α β : Type} {m : Sem α} {f : α → Sem β} {K : β → Sem PySem.Fin} {H : Value → Sem PySem.Fin} {gd lv}
    (h : wpAny M (A.over c fs) m (fun a s' => FSeg M A R Y c ((f a).wrap K H gd lv) fs s') (fun x s' => FSeg M A R Y c (H x) fs s') s) : FSeg M A R Y c ((m >>= f).wrap K H gd lv) fs s := by
  rw [Sem.bind_eq_wrap', Sem.wrap_wrap]
  exact fseg_wrap h
theorem fsegw_bind2 {α β γ : Type} {m : Sem α} {f : α → Sem β} {f2 : β → Sem γ} {K : γ → Sem PySem.Fin} {J : Value → Sem PySem.Fin} {gd : Bool → Bool} {lv : List Value → List Value}
    (h : wpAny M (A.over c fs) m (fun a s' => FSeg M A R Y c ((f a).wrap (fun b => (f2 b).wrap K J gd lv) J gd lv) fs s') (fun x s' => FSeg M A R Y c (J x) fs s') s) :
    FSeg M A R Y c (((m >>= f) >>= f2).wrap K J gd lv) fs s := by
  rw [Sem.bind_eq_wrap' (m >>= f) f2, Sem.wrap_wrap]
  exact fseg_bind_wrap h
theorem fseg_at {p' : Pos} {k : Unit → Sem PySem.Fin} (h : FSeg M A R Y c (k ()) fs s) : FSeg M A R Y c (.at p' k) fs s :=
  fseg_wrap (m := standAt p') (K := k) (H := .raise) (gd := id) (lv := id) (wpAny_standAt h)
theorem fseg_point {l : List Value} {k : Unit → Sem PySem.Fin} (h : FSeg M A R Y c (k ()) fs s) : FSeg M A R Y c (.point l k) fs s :=
  fseg_wrap (m := point) (K := k) (H := .raise) (gd := id) (lv := fun _ => l) (wpAny_point h)
theorem fseg_call {c' : Code} {h g l} {k : Result → Sem PySem.Fin} (hc : ∀ p, FSeg M A R Y c' (M.den c') (.ret k h g l c p [] :: fs) s) : FSeg M A R Y c (.call c' h g l k) fs s := by
  rintro Γ p rfl hΓ
  obtain ⟨e, s', hr, he⟩ := hc p (Γ.goto c') p rfl (hΓ.goto c')
  exact ⟨e, s', runs_call_seg hr, he⟩
theorem fseg_yield {v g l} {k : Resume → Sem PySem.Fin} (hfs : splitAtGen fs = none) (hg : g = false) (hfg : fs.any Frame.guarded = false) (h : Y v s k c fs) : FSeg M A R Y c (.yield v g l k) fs s := by
  rintro Γ p rfl _
  exact ⟨_, s, Runs.yield' fs hfs, by simp [End.quiet, hg, hfg], h⟩
theorem wpAny_resumeF {E : Value → Shared → Prop} {g : Nat} {c0 : Code} {l : List Value} {α : Type} {k : GenResult → Sem α} {Q : α → Shared → Prop} (hg : s.gens[g]? = some (.fresh c0))
    (hgo : FSeg M A R Y c0 (M.den c0) [] (s.setGen g .running))
    (hR : ∀ x s₁, R x s₁ → wpAny M A (k (End.ret x).result) Q E (s₁.setGen g .finished))
    (hY : ∀ v s₁ k' l' c' p' fs', Y v s₁ k' c' fs' → wpAny M A (k (.yielded v)) Q E (s₁.setGen g (.suspended k' l' c' p' fs' false))) : wpAny M A (.resume g (.send .none) l k) Q E s := by
  intro Γ p hΓ
  rw [Sem.wp_resume]
  obtain ⟨e₁, s₁, hr, he⟩ := hgo (Γ.wake c0 p) p rfl (hΓ.wake c0 p)
  have hq : e₁.quiet = true := by
    cases e₁ with
    | ret x => rfl
    | susp v g₀ l₀ k₀ c₀ p₀ fs₀ => exact he.1
  refine ⟨e₁.result, s₁.setGen g e₁.genState, wakes_fresh hg hr hq, ?_⟩
  cases e₁ with
  | ret x => exact hR x s₁ he Γ p hΓ
  | susp v g₀ l₀ k₀ c₀ p₀ fs₀ =>
    have z := hY v s₁ k₀ l₀ c₀ p₀ fs₀ he.2 Γ p hΓ
    have e : (g₀ || fs₀.any Frame.guarded) = false := by
      have q := he.1
      simpa [End.quiet] using q
    show Sem.wp _ _ _ _ _ _ (s₁.setGen g (.suspended k₀ l₀ c₀ p₀ fs₀ (g₀ || fs₀.any Frame.guarded)))
    rw [e]
    exact z
end
section
variable {P : Program} {w : World} {A : Around} {E : Value → Shared → Prop} {s : Shared}
theorem next_genF {a : Addr} {g : Nat} {c0 : Code} {Y : Value → Shared → (Resume → Sem PySem.Fin) → Code → List Frame → Prop} {Q : Option Value → Shared → Prop} (hh : A.handled = none)
    (hl : s.heap.NoLimit) (hroom : A.depth < recursionLimit) (hg : s.heap.IsGen a g) (hgs : s.gens[g]? = some (.fresh c0))
    (hgo : FSeg (model P w) A.in1 (fun _ _ => False) Y c0 ((model P w).den c0) [] (s.setGen g .running))
    (hY : ∀ v s₁ k' l' c' p' fs', Y v s₁ k' c' fs' → Q (some v) (s₁.setGen g (.suspended k' l' c' p' fs' false))) : wpAny (model P w) A (pyNext (.ref a)) Q E s := by
  unfold pyNext
  refine wpAny_bind (wpAny_attempt (wpAny_callSpecial?_slot (name := Str.ofString "__next__") hg.typeIs slot_gen_next
    (wpAny_call_entry slot_gen_next hg.typeIs entry_gen_next ?_ (args_gen_next _))))
  show wpAny _ A.in1 (Builtin.Generator.genWake (.ref a) (.send .none)) _ _ s
  unfold Builtin.Generator.genWake
  refine wpAny_bind (wpAny_holding (wpAny_genNumber hg (wpAny_bind (wpAny_genState hgs ?_))))
  refine wpAny_bind (wpAny_roomToWake hl hroom ?_)
  show wpAny _ A.in1 (.resume g (.send .none) [] _) _ _ s
  refine wpAny_resumeF hgs hgo (fun x s₁ hx => hx.elim) (fun v s₁ k' l' c' p' fs' hv => ?_)
  exact wpAny_pure ⟨v, rfl, wpAny_pure (hY v s₁ k' l' c' p' fs' hv)⟩
theorem special_list_item {it l : Addr} {i : Nat} {items : Array Value} {x : Value} {Q : Option Value → Shared → Prop} (hit : s.heap.IsListIter it l i) (hl : s.heap.IsList l items) (hx : items[i]? = some x)
    (hQ : ∀ h', h'.IsListIter it l (i + 1) → Heap.SameBut it s.heap h' → Q (some x) { s with heap := h' }) : wpAny (model P w) A (callSpecial? (.ref it) "__next__") Q E s := by
  obtain ⟨o, ho, hc, hd⟩ := id hit
  obtain ⟨ol, hol, _, nl, hdl⟩ := hl
  refine wpAny_callSpecial?_slot (name := Str.ofString "__next__") hit.typeIs slot_listiter_next
    (wpAny_call_entry slot_listiter_next hit.typeIs entry_listiter_next ?_ (args_listiter_next _))
  show wpAny _ _ (field (.ref it) 0 >>= _) _ _ s
  refine wpAny_bind (wpAny_field ho hd (x := .ref l) rfl ?_)
  show wpAny _ _ (if (Value.ref l == Value.none) = true then _ else _) _ _ s
  rw [if_neg (show ¬ ((Value.ref l == Value.none) = true) from Bool.false_ne_true)]
  show wpAny _ _ (field (.ref it) 1 >>= _) _ _ s
  refine wpAny_bind (wpAny_field ho hd (x := .int i 0) rfl ?_)
  show wpAny _ _ (seqItems? (.ref l) >>= _) _ _ s
  refine wpAny_bind (wpAny_seqItems hol hdl ?_)
  simp only [Int.toNat_natCast, hx]
  refine wpAny_bind (wpAny_setField ho hd (by simp) (wpAny_pure ⟨x, rfl, hQ _ ?_ (Heap.SameBut.update ..)⟩))
  exact ⟨_, Heap.get?_update_self _ ho (Obj.isFreed_of_fields (Obj.data_mapFields hd _)), (Obj.cls_mapFields ..).trans hc, by
    rw [Obj.data_mapFields hd]; simp [rawInt]⟩
theorem special_list_end {it l : Addr} {i : Nat} {items : Array Value} {Q : Option Value → Shared → Prop} (hh : A.handled = none) (hit : s.heap.IsListIter it l i) (hl : s.heap.IsList l items) (hx : items[i]? = none)
    (hE : ∀ e h', StopX e h' → Heap.ExtBut it s.heap h' → E e { s with heap := h' }) : wpAny (model P w) A (callSpecial? (.ref it) "__next__") Q E s := by
  obtain ⟨o, ho, hc, hd⟩ := id hit
  obtain ⟨ol, hol, _, nl, hdl⟩ := hl
  refine wpAny_callSpecial?_slot (name := Str.ofString "__next__") hit.typeIs slot_listiter_next
    (wpAny_call_entry slot_listiter_next hit.typeIs entry_listiter_next ?_ (args_listiter_next _))
  show wpAny _ _ (field (.ref it) 0 >>= _) _ _ s
  refine wpAny_bind (wpAny_field ho hd (x := .ref l) rfl ?_)
  show wpAny _ _ (if (Value.ref l == Value.none) = true then _ else _) _ _ s
  rw [if_neg (show ¬ ((Value.ref l == Value.none) = true) from Bool.false_ne_true)]
  show wpAny _ _ (field (.ref it) 1 >>= _) _ _ s
  refine wpAny_bind (wpAny_field ho hd (x := .int i 0) rfl ?_)
  show wpAny _ _ (seqItems? (.ref l) >>= _) _ _ s
  refine wpAny_bind (wpAny_seqItems hol hdl ?_)
  simp only [Int.toNat_natCast, hx]
  refine wpAny_bind (wpAny_rule (wpAny_bind (wpAny_setField ho hd (by simp) ?_)))
  show wpAny _ _ (newExc (.type "StopIteration") [] >>= _) _ _ _
  refine wpAny_bind ?_
  simp only [newExc, newTuple]
  refine wpAny_bind (wpAny_newObj_type ?_ (by size_fits))
  refine wpAny_bind (m := firstArgMember _ _) (wpAny_of_eq (a := Value.none) (by first | rfl | (simp only [firstArgMember]; rfl)) ?_)
  refine wpAny_newObj_type ?_ (by size_fits)
  simp only [raiseNew]
  refine wpAny_bind (wpAny_handled ?_)
  first | rw [show A.in1.handled = none from hh] | rw [hh]
  refine wpAny_bind (wpAny_pure (wpAny_throw ?_))
  refine hE _ _ ⟨_, _, _, rfl, Heap.get?_push_size _ rfl, rfl, rfl, ?_⟩ (((Heap.SameBut.update ..).extBut.push _).push _)
  first
    | rfl
    | (rw [Array.getElem?_append_left (by decide)]; rfl)
    | kernel_rfl
theorem close_list : typeLookup (.type "list_iterator") "close" = pure none := by rw [typeLookup_type, builtinLookup_eq_fast]; kernel_rfl
def LS (it L : Addr) (N i : Nat) (s : Shared) : Prop := s.heap.IsListIter it L i ∧ ∃ its, s.heap.IsList L its ∧ its.size = N
def YL (it L : Addr) (N : Nat) : Protocol := fun n s₀ v s1 kap => ∃ i its, i + (n + 1) = N ∧ s₀.heap.IsList L its ∧ its[i]? = some v ∧ (∃ h tk, s1 = { s₀ with heap := h, toks := tk } ∧ Heap.SameBut it s₀.heap h) ∧ s1.heap.IsListIter it L (i + 1) ∧ ∀ s'', LS it L N (i + 1) s'' → kap (.send .none) s''
def RL (it : Addr) : GenEnd := fun n s₀ r s1 => n = 0 ∧ (r = .ok (.ret .none) ∨ r = .ok .next) ∧ ∃ h tk, s1 = { s₀ with heap := h, toks := tk } ∧ Heap.ExtBut it s₀.heap h
abbrev yfC (it : Addr) : Code := .builtin "proto.yield_from" ⟨[.ref it, .bool false, .none], []⟩
theorem seg_yfl {it L : Addr} {N : Nat} {fs : List Frame} (hLi : L ≠ it)
    (ho : (A.over (yfC it) fs).handled = none) (hsp : splitAtGen fs = none) (hgd : fs.any Frame.guarded = false)
    (hend : ∀ (s₀ s : Shared), (∃ h tk, s = { s₀ with heap := h, toks := tk } ∧ Heap.ExtBut it s₀.heap h) → Seg (model P w) A (RL it) (YL it L N) 0 s₀ (yfC it) (.pure (.done (.ret .none))) fs s) :
    ∀ (n i : Nat) (s : Shared), i + n = N → LS it L N i s → Seg (model P w) A (RL it) (YL it L N) n s (yfC it) ((model P w).den (yfC it)) fs s := by
  have den : (model P w).den (yfC it) = Builtin.«proto.yield_from» ⟨[.ref it, .bool false, .none], []⟩ := by
    show (match entryFor table "proto.yield_from" with | some b => b ⟨[.ref it, .bool false, .none], []⟩ | none => unsupported ((withoutEnding? "proto.yield_from" "#data").getD "proto.yield_from")) = _
    rw [entry_yf]
  have hng : (Value.type "list_iterator" != Value.type "generator") = true := by decide
  intro n
  induction n with
  | zero =>
    intro i s hi hst
    obtain ⟨hit, its, hil, hsz⟩ := hst
    rw [den]
    unfold Builtin.«proto.yield_from»
    try dsimp only
    refine seg_bind (wpAny_pure ?_)
    try dsimp only
    refine seg_bind (wpAny_attempt (wpAny_holding ?_))
    rw [if_neg Bool.false_ne_true, if_pos (show (Value.none == Value.none) = true from rfl)]
    refine wpAny_bind (wpAny_rule (wpAny_bind ?_))
    refine special_list_end ho hit hil (Array.getElem?_eq_none_iff.mpr (by omega)) fun e h' hS hk => ?_
    obtain ⟨a, o, vs, rfl, hoa, hcls, hdat, h5⟩ := hS
    try dsimp only
    refine seg_bind (wpAny_endsTurn hoa hcls ?_)
    try dsimp only
    rw [if_pos rfl]
    first
      | refine seg_bind (wpAny_rule ?_)
      | (rw [if_neg Bool.false_ne_true]; refine seg_bind (wpAny_rule ?_))
      | (rw [if_neg Bool.false_ne_true]; refine seg_bind (wpAny_pure ?_); refine seg_bind (wpAny_rule ?_))
    refine seg_bind (wpAny_field hoa hdat h5 ?_)
    exact hend s _ ⟨h', s.toks, rfl, hk⟩
  | succ n ih =>
    intro i s hi hst
    obtain ⟨hit, its, hil, hsz⟩ := hst
    obtain ⟨x, hx⟩ : ∃ x, its[i]? = some x := ⟨its[i]'(by omega), Array.getElem?_eq_getElem (by omega)⟩
    rw [den]
    unfold Builtin.«proto.yield_from»
    try dsimp only
    refine seg_bind (wpAny_pure ?_)
    try dsimp only
    refine seg_bind (wpAny_attempt (wpAny_holding ?_))
    rw [if_neg Bool.false_ne_true, if_pos (show (Value.none == Value.none) = true from rfl)]
    refine wpAny_bind (wpAny_rule (wpAny_bind ?_))
    refine special_list_item hit hil hx fun h' hst' hk => ?_
    obtain ⟨oi, hoi, hoc, _⟩ := id hst'
    refine wpAny_pure ?_
    try dsimp only
    refine seg_bind (wpAny_typeOf (T := "list_iterator") ⟨oi, hoi, hoc⟩ ?_)
    try dsimp only
    first
      | (refine seg_bind (wpAny_of_eq close_list ?_); refine seg_bind (wpAny_pure ?_))
      | refine seg_bind (wpAny_bind (wpAny_of_eq close_list (wpAny_pure ?_)))
      | refine seg_bind (wpAny_of_eq close_list ?_)
    try dsimp only
    refine seg_bind (wpAny_sleptOver hoi hoc hng ?_)
    refine seg_yield hsp rfl hgd ?_
    refine ⟨i, its, hi, hil, hx, ⟨h', s.toks, rfl, hk⟩, hst', fun s'' z => ?_⟩
    obtain ⟨oj, hoj, hojc, _⟩ := id z.1
    show Seg _ _ _ _ n s'' _ (Builtin.Generator.sleptOver (.ref it) false >>= fun _ => _) fs s''
    refine seg_bind (wpAny_sleptOver hoj hojc hng ?_)
    try dsimp only
    refine seg_bind (wpAny_pure ?_)
    exact seg_again (plainId_quiet plain_yf _) (ih (i + 1) s'' (by omega) z)
theorem fseg_yfl {it L : Addr} {N : Nat} {fs : List Frame} {R : Result → Shared → Prop} {Y : Value → Shared → (Resume → Sem PySem.Fin) → Code → List Frame → Prop} {x : Value} (hLi : L ≠ it)
    (ho : (A.over (yfC it) fs).handled = none) (hsp : splitAtGen fs = none) (hgd : fs.any Frame.guarded = false)
    (hend : ∀ (s₀ s : Shared), (∃ h tk, s = { s₀ with heap := h, toks := tk } ∧ Heap.ExtBut it s₀.heap h) → Seg (model P w) A (RL it) (YL it L N) 0 s₀ (yfC it) (.pure (.done (.ret .none))) fs s)
    {its : Array Value} (hit : s.heap.IsListIter it L 0) (hil : s.heap.IsList L its) (hN : its.size = N) (hx : its[0]? = some x)
    (hY : ∀ h' k, h'.IsListIter it L 1 → Heap.SameBut it s.heap h' → (∀ s'', LS it L N 1 s'' → Seg (model P w) A (RL it) (YL it L N) (N - 1) s'' (yfC it) (k (.send .none)) fs s'') → Y x { s with heap := h' } k (yfC it) fs) :
    FSeg (model P w) A R Y (yfC it) ((model P w).den (yfC it)) fs s := by
  have den : (model P w).den (yfC it) = Builtin.«proto.yield_from» ⟨[.ref it, .bool false, .none], []⟩ := by
    show (match entryFor table "proto.yield_from" with | some b => b ⟨[.ref it, .bool false, .none], []⟩ | none => unsupported ((withoutEnding? "proto.yield_from" "#data").getD "proto.yield_from")) = _
    rw [entry_yf]
  have hng : (Value.type "list_iterator" != Value.type "generator") = true := by decide
  have hsz : 0 < its.size := (Array.getElem?_eq_some_iff.mp hx).1
  rw [den]
  unfold Builtin.«proto.yield_from»
  try dsimp only
  refine fseg_bind (wpAny_pure ?_)
  try dsimp only
  refine fseg_bind (wpAny_attempt (wpAny_holding ?_))
  rw [if_neg Bool.false_ne_true, if_pos (show (Value.none == Value.none) = true from rfl)]
  refine wpAny_bind (wpAny_rule (wpAny_bind ?_))
  refine special_list_item hit hil hx fun h' hst' hk => ?_
  obtain ⟨oi, hoi, hoc, _⟩ := id hst'
  refine wpAny_pure ?_
  try dsimp only
  refine fseg_bind (wpAny_typeOf (T := "list_iterator") ⟨oi, hoi, hoc⟩ ?_)
  try dsimp only
  first
    | (refine fseg_bind (wpAny_of_eq close_list ?_); refine fseg_bind (wpAny_pure ?_))
    | refine fseg_bind (wpAny_bind (wpAny_of_eq close_list (wpAny_pure ?_)))
    | refine fseg_bind (wpAny_of_eq close_list ?_)
  try dsimp only
  refine fseg_bind (wpAny_sleptOver hoi hoc hng ?_)
  refine fseg_yield hsp rfl hgd ?_
  refine hY h' _ hst' hk fun s'' z => ?_
  obtain ⟨oj, hoj, hojc, _⟩ := id z.1
  show Seg _ _ _ _ _ s'' _ (Builtin.Generator.sleptOver (.ref it) false >>= fun _ => _) fs s''
  refine seg_bind (wpAny_sleptOver hoj hojc hng ?_)
  try dsimp only
  refine seg_bind (wpAny_pure ?_)
  exact seg_again (plainId_quiet plain_yf _) (seg_yfl hLi ho hsp hgd hend _ 1 s'' (by omega) z)
end
end Dl
namespace Dl
open PySem PySem.Spec PyProof.Rows L2 GenW
def YF0 (P : Program) (w : World) (A : Around) (outer : List Env) (H : Hp) (s : Shared) (a : Addr) (g : Nat) (Q : List V → Addr → Hp → Prop) (v : Value) (s3 : Shared) (k : Resume → Sem PySem.Fin) (c : Code) (fs : List Frame) : Prop :=
  ∃ (H1 : Hp) (L it : Addr) (x : V) (xs : List V), s3.os = s.os ∧ AllBare s3.gens ∧ Un (frs outer) [] H H1 s.heap s3.heap ∧ HOk P w H1 s3.heap ∧ H1 L = some (.lst (x :: xs)) ∧ Q (x :: xs) L H1 ∧ s3.heap.IsListIter it L 1 ∧ s.heap.objs.size ≤ it ∧ H1 it = none ∧ it ≠ a ∧
    s3.heap.IsGen a g ∧ H1 a = none ∧ RelV x v ∧ ∀ s'', LS it L (xs.length + 1) 1 s'' → Seg (model P w) A (RL it) (YL it L (xs.length + 1)) xs.length s'' c (k (.send .none)) fs s''
def GNew (P : Program) (w : World) (k : Nat) (outer : List Env) (H : Hp) (s : Shared) (Q : List V → Addr → Hp → Prop) (u : Value) (s' : Shared) : Prop :=
  ∃ (a : Addr) (g : Nat) (c : Code), u = .ref a ∧ s.heap.objs.size ≤ a ∧ a < s'.heap.objs.size ∧ s'.heap.IsGen a g ∧ s'.gens[g]? = some (.fresh c) ∧ s'.os = s.os ∧ AllBare s'.gens ∧ (∀ b o, s.heap.get? b = some o → s'.heap.get? b = some o) ∧
    ∀ (A : Around) (s2 : Shared), Room k A → A.frames = some outer → (∀ b o, s'.heap.get? b = some o → s2.heap.get? b = some o) → s2.os = s.os → AllBare s2.gens →
      FSeg (model P w) A (fun _ _ => False) (YF0 P w A outer H s a g Q) c ((model P w).den c) [] s2
abbrev SpL := List V → Hp → (List V → Addr → Hp → Prop) → Prop
structure GFn (P : Program) (w : World) (K : PySem.W.Frag) (mg : Str → Option Value) (base : Heap) (k : Nat) (f : Addr) (fd : FuncData) (ps : List Str) (sp : SpL) : Prop where
  len : ∀ vs H Q, sp vs H Q → vs.length = ps.length
  run : ∀ (A : Around) (outer : List Env) (s : Shared) (H : Hp) (args : Args) (us : List Value) (vs : List V) (Q : List V → Addr → Hp → Prop), Room k A → Env0 P w K mg base A outer s H → BindsTo s fd args (ps.zip us) → Vals vs us → sp vs H Q →
    codeAny (model P w) A (.call (.ref f) args) (fun r s' => match r with | .ok (.ret u) => GNew P w k outer H s Q u s' | _ => False) s
abbrev noX : XK := fun _ _ _ => False
theorem CX_no {P : Program} {w : World} {outer : List Env} {H : Hp} {s s' : Shared} {u : Value} (h : L2.CX P w outer H s noX u s') : False := by
  obtain ⟨_, _, _, _, _, _, _, _, _, _, _, _, z⟩ := h
  exact z
theorem fseg_func {M : Model} {prog : Program} {w : World} {A : Around} {R : Result → Shared → Prop} {Y : Value → Shared → (Resume → Sem PySem.Fin) → Code → List Frame → Prop} {fs : List Frame} {s : Shared} {env : Env} {body : List Stmt}
    (h : FSeg (model prog w) A R Y (.func body env) ((execs body env).wrap (fun f => .pure (.done (.ret (match f with | .ret v => v | _ => .none))))
      (fun e => (leaving env e).wrap (fun _ => .raise e) .raise id id) id id) fs s) :
    FSeg (model prog w) A R Y (.func body env) ((model prog w).den (.func body env)) fs s := by
  show FSeg _ A R Y _ (.point [] fun _ => ((execs body env).onRaise (leaving env)) >>= _) fs s
  refine fseg_point ?_
  rw [Sem.onRaise_eq_wrap, Sem.bind_eq_wrap', Sem.wrap_wrap]
  rw [Sem.wrap_congr (execs body env) _ _ (K' := fun f => .pure (.done (.ret (match f with | .ret v => v | _ => .none))))
    (H' := fun e => (leaving env e).wrap (fun _ => .raise e) .raise id id) (fun f => by cases f <;> rfl)
    (fun e => by rw [Sem.bind_eq_wrap, Sem.wrap_wrap]; rfl)]
  exact h
theorem gfn_list {P : Program} {w : World} {K : PySem.W.Frag} {mg : Str → Option Value} {base : Heap} {k : Nat} {f : Addr} {name qual : Str} {params : Arguments} {e : Expr} {yp pos : Pos} {scope : Scope} {dV kV doc pm cdv ct oc : Value} {an od : Option Addr}
    {osl : Array (Option Value)} {N ps : List Str} {sp : SpL} (lk : K.lookup f = some ⟨oc, od, .func (PySem.W.fnOf name qual params [.Expr (.YieldFrom e yp) pos] scope dV kV doc pm an cdv ct), osl⟩) (hcd : PySem.W.codeIn K cdv qual = true) (S : GScope N ps scope)
    (len : ∀ vs H Q, sp vs H Q → vs.length = ps.length)
    (hbody : ∀ (A : Around) (outer : List Env) (s : Shared) (H : Hp) (vs : List V) (Q : List V → Addr → Hp → Prop), Room k (A.deeper (envOfC qual scope s.heap.objs.size f cdv)) → sp vs H Q →
      ∃ te, PE (cxD P w K mg base N qual scope f cdv A outer s H noX) e te ∧ te (start N vs) H fun x H1 => ∃ L y ys, x = .ref L ∧ H1 L = some (.lst (y :: ys)) ∧ Q (y :: ys) L H1) :
    GFn P w K mg base (k + 1) f (PySem.W.fnOf name qual params [.Expr (.YieldFrom e yp) pos] scope dV kV doc pm an cdv ct) ps sp := by
  refine ⟨len, fun A outer s H args us vs Q hr e0 hb r hsp => ?_⟩
  have hl := len _ _ _ hsp
  have KX : K.In s.heap := e0.mod.kin.keeps fun b o e => (e0.bs b o e).1
  have lim : s.heap.NoLimit := e0.mod.nolimit.keeps fun b o e => (e0.bs b o e).1
  have hkind : ∀ y ∈ ps.zip us, scope.names.lookup y.1 = some .local ∨ (scope.names.lookup y.1 = some .cell ∧ ((cellsFrom (s.heap.objs.size + 1) scope.names []).lookup y.1).isSome = true) := fun ⟨n, v⟩ hy => by
    rcases S.par n (List.of_mem_zip hy).1 with q | q
    · exact .inl q
    · exact .inr ⟨q, PySem.W.cellsFrom_some _ _ _ (.inl q)⟩
  refine codeAny_call_generator hr.depth (KX _ _ lk) rfl S.co S.gen rfl (PySem.W.codeRec_of KX hcd) (hb _ _ _ _ ?_)
  refine wpAny_newFunctionEnv_cells S.kind hkind fun env he s1 x => ?_
  subst he
  have lim1 : s1.heap.NoLimit := lim.keeps x.toInCall.keep
  refine ⟨lim1, ?_⟩
  obtain ⟨h1, tk, es1, hk1⟩ := x.done
  have os1 : s1.os = s.os := by rw [es1]
  have gen1 : s1.gens = s.gens := by rw [es1]
  have lt1 : s.heap.objs.size < s1.heap.objs.size := x.toInCall.ns.lt
  have sz1 : s.heap.objs.size ≤ s1.heap.objs.size := Nat.le_of_lt lt1
  have kp1 : ∀ b o, s.heap.get? b = some o → s1.heap.get? b = some o := x.toInCall.keep
  have main : ∀ (go : Obj) (nm qn : Value) (tk2 : Nat), go.cls = .type "generator" → go.data = .fields #[.int s1.gens.size 0, nm, qn] → go.slots = #[] → (∀ h : Heap, (h.push go).get? h.objs.size = some go) →
      GNew P w (k + 1) outer H s Q (.ref s1.heap.objs.size) { s1 with gens := s1.gens.push (.fresh (.func [.Expr (.YieldFrom e yp) pos] (envOfC qual scope s.heap.objs.size f cdv))), toks := tk2, heap := s1.heap.push go } := by
    intro go nm qn tk2 hgc hgd0 hgs hgp
    have hgen : ∀ h : Heap, h.get? s1.heap.objs.size = some go → h.IsGen s1.heap.objs.size s1.gens.size := fun h e => ⟨go, nm, qn, e, hgc, hgd0, hgs⟩
    have hpushed : (s1.heap.push go).get? s1.heap.objs.size = some go := hgp _
    refine ⟨s1.heap.objs.size, s1.gens.size, _, rfl, sz1, ?_, hgen _ hpushed, Array.getElem?_push_size .., os1, ?_, fun b o e => Heap.get?_push_of_some _ (kp1 b o e), ?_⟩
    · show _ < (s1.heap.push _).objs.size
      rw [Heap.size_push]; exact Nat.lt_succ_self _
    · exact AllBare.push (by rw [gen1]; exact e0.bare) rfl
    intro Aw s2 hrw hfr hk2 hos hba
    have e0w : Env0 P w K mg base Aw outer s H := ⟨hfr, e0.mod, e0.bs, e0.bsz, e0.funs, e0.frf, e0.hok, e0.bare⟩
    obtain ⟨te, ht, hq⟩ := hbody Aw outer s H vs Q (hrw.deeper _) hsp
    have I1' : Inv (gcxOf P w K mg base N qual scope f cdv Aw outer s H noX []) [] (start N vs) H s1 := inv_startG S hrw.hd e0w hl r x
    have I1 : Inv (cxD P w K mg base N qual scope f cdv Aw outer s H noX) [] (start N vs) H s1 :=
      ⟨⟨I1'.ok.mod, I1'.ok.kind, I1'.ok.glob, I1'.ok.blt, I1'.ok.above, I1'.ok.inj, I1'.ok.has, I1'.ok.cab, I1'.ok.hd, I1'.ok.frames, I1'.ok.stk, I1'.ok.exf, I1'.ok.bs, I1'.ok.bsz, I1'.ok.noex, I1'.ok.exfs, I1'.ok.funs, I1'.ok.frf⟩, I1'.os, I1'.bare, I1'.base, I1'.loc, I1'.cell, I1'.free, I1'.freeC, I1'.pin, I1'.hok, I1'.len⟩
    have kp2 : ∀ b o, s1.heap.get? b = some o → s2.heap.get? b = some o := fun b o e => hk2 b o (Heap.get?_push_of_some _ e)
    have I2' : Inv (cxD P w K mg base N qual scope f cdv Aw outer s H noX) [] (start N vs) H s2 :=
      I1.call' (ch := []) (hos.trans os1.symm) (Un.kept kp2) (I1.hok.kept kp2) hba fun b z => by simp at z
    have hea : s2.heap.get? s1.heap.objs.size = some go := hk2 s1.heap.objs.size go hpushed
    have hgd : ∀ v, go.data ≠ .cell v := fun v q => by rw [hgd0] at q; cases q
    have I2 : Inv (cxD P w K mg base N qual scope f cdv Aw outer s H noX) [(s1.heap.objs.size, go)] (start N vs) H s2 := I2'.pins_of fun p hp => by
      rw [List.mem_singleton.mp hp]
      exact ⟨hea, I1.hok.fresh (Nat.le_refl _), Nat.ne_of_gt lt1, I1.nofs (Nat.le_refl _), hgd⟩
    refine fseg_func (M := model P w) ?_
    rw [execs_cons_wrap, exec_Expr _ _ pos (by show (scope.kind == ScopeKind.module && _) = false; rw [S.kind]; rfl) rfl]
    refine fseg_at ?_
    refine fsegw_bind2 ?_
    rw [over_func]
    have noE : ∀ (x : Value) (s' : Shared), (cxD P w K mg base N qual scope f cdv Aw outer s H noX).xe x s' → FSeg (model P w) Aw (fun _ _ => False) (YF0 P w Aw outer H s s1.heap.objs.size s1.gens.size Q) (.func [.Expr (.YieldFrom e yp) pos] (envOfC qual scope s.heap.objs.size f cdv))
        ((leaving (envOfC qual scope s.heap.objs.size f cdv) x).wrap (fun _ => .raise x) .raise id id) [] s' := fun x s' hx => by
      refine fseg_wrap ?_
      rw [over_func]
      exact wpAny_mono (show wpAny (model P w) (Aw.deeper (envOfC qual scope s.heap.objs.size f cdv)) (leaving (envOfC qual scope s.heap.objs.size f cdv) x) (fun _ s'' => L2.CX P w outer H s noX x s'') (fun e' s'' => L2.CX P w outer H s noX e' s'') s' from hx) (fun _ s'' q => (CX_no q).elim) fun _ s'' q => (CX_no q).elim
    refine wpAny_mono (ht.run _ s2 _ _ _ I2 hq) (fun v s3 hv => ?_) fun x s' hx => noE x s' hx
    obtain ⟨xv, H3, I3, rx, L, y, ys, ex, hL, hQ⟩ := hv
    subst ex
    obtain rfl : v = Value.ref L := rx
    have hls := I3.list (.of hL)
    obtain ⟨its, rits, pl, hz⟩ := hls
    have hil := pl.isList
    refine fseg_at ?_
    show FSeg _ _ _ _ _ ((yieldFrom (envOfC qual scope s.heap.objs.size f cdv) (.ref L)).wrap (fun b => _) _ id id) [] s3
    unfold yieldFrom
    refine fseg_bind_wrap (wpAny_typeOf hil.typeIs ?_)
    rw [if_neg (show ¬ ((Value.type "list" == Value.type "coroutine") = true) by decide)]
    refine fseg_bind_wrap (wpAny_holding ?_)
    refine wpAny_pyIter_list hil ?_
    have k3 : ∀ b o, s3.heap.get? b = some o → (s3.heap.push { cls := .type "list_iterator", data := .fields #[.ref L, .int 0 0] }).get? b = some o := fun b o e => Heap.get?_push_of_some _ e
    refine fseg_call fun p => ?_
    have hne : its.toArray.size = ys.length + 1 := by
      have e := rits.length
      simp only [List.size_toArray]
      rw [← e]; rfl
    obtain ⟨u0, its', rfl, r0, rr⟩ : ∃ u0 its', its = u0 :: its' ∧ RelV y u0 ∧ Vals ys its' := by
      cases rits with
      | cons a b => exact ⟨_, _, rfl, a, b⟩
    have hit0 : (s3.heap.push { cls := .type "list_iterator", data := .fields #[.ref L, .int 0 0] }).IsListIter s3.heap.objs.size L 0 := ⟨_, Heap.get?_push_size _ rfl, rfl, rfl⟩
    have hltL : L < s3.heap.objs.size := let ⟨_, h, _⟩ := hil; Heap.lt_size h
    refine fseg_yfl (L := L) (N := ys.length + 1) (its := (u0 :: its').toArray) (x := u0) (Nat.ne_of_lt hltL) ?_ (by rfl) (by rfl) (fun s₀ s4 hk => ?_) hit0 (hil.push _) hne rfl fun h' kk hst' hk hnext => ?_
    · show (Aw.over (.func [.Expr (.YieldFrom e yp) pos] (envOfC qual scope s.heap.objs.size f cdv)) []).handled = none
      rw [over_func]; exact hrw.hd
    · refine seg_leaf (.ok (.ret .none)) ?_
      exact seg_end (c := .func [.Expr (.YieldFrom e yp) pos] (envOfC qual scope s.heap.objs.size f cdv)) (.ok (.ret .none)) ⟨rfl, .inl rfl, hk⟩
    · have hsub : ∀ b o, s3.heap.get? b = some o → h'.get? b = some o := fun b o e => hk.extBut b o (Nat.ne_of_lt (Heap.lt_size e)) (k3 b o e)
      have I4 : Inv (cxD P w K mg base N qual scope f cdv Aw outer s H noX) [(s1.heap.objs.size, go)] (start N vs) H3 { s3 with heap := h' } := I3.kept (t' := s3.toks) hsub
      have ha := I4.pin (s1.heap.objs.size, go) (List.mem_append_right _ (List.mem_singleton.mpr rfl))
      have hlt : s1.heap.objs.size < s3.heap.objs.size := Heap.lt_size (I3.pin (s1.heap.objs.size, go) (List.mem_append_right _ (List.mem_singleton.mpr rfl))).1
      exact ⟨H3, L, s3.heap.objs.size, y, ys, I4.os, I4.bare, I4.base, I4.hok, hL, hQ, hst', Nat.le_of_lt (Nat.lt_trans lt1 hlt), I3.hok.fresh (Nat.le_refl _), Nat.ne_of_gt hlt, hgen _ ha.1, ha.2.1, r0, hnext⟩
  exact main _ _ _ _ rfl rfl rfl fun h => Heap.get?_push_size _ rfl
end Dl
namespace Dl
open PySem PySem.Spec PyProof.Rows L2 GenW
section
variable {M : Model}
theorem wpAny_resumeA {A : Around} {R : GenEnd} {Y : Protocol} {n : Nat} {E : Value → Shared → Prop} {s : Shared} {g : Nat} {gs : GenState}
    {r : Resume} {l : List Value} {α : Type} {k : GenResult → Sem α} {Q : α → Shared → Prop} (hg : s.gens[g]? = some gs)
    (hgo : gs.Goes M A R Y n r (s.setGen g .running))
    (hR : ∀ x s₁, R n (s.setGen g .running) x s₁ → wpAny M A (k (End.ret x).result) Q E (s₁.setGen g .finished))
    (hY : ∀ v s₁ gs', gs'.bare = true → asleep gs' = true → Y (n - 1) (s.setGen g .running) v s₁ (fun r' s'' => ∃ m, n = m + 1 ∧ gs'.Goes M A R Y m r' s'') →
      wpAny M A (k (.yielded v)) Q E (s₁.setGen g gs')) :
    wpAny M A (.resume g r l k) Q E s := by
  intro Γ p hΓ
  rw [Sem.wp_resume]
  have hB : ∀ c, (Γ.wake c p).Woken A := fun c => hΓ.wake c p
  have fin : ∀ e₁ s₁, SegEnd R Y n (Seg.next M A R Y n) (s.setGen g .running) e₁ s₁ →
      Sem.wp M Γ (k e₁.result) (fun a _ s' => Q a s') (fun e _ s' => E e s') p (s₁.setGen g e₁.genState) := by
    intro e₁ s₁ he
    cases e₁ with
    | ret x => exact hR x s₁ he Γ p hΓ
    | susp v g₀ l₀ k₀ c₀ p₀ fs₀ =>
      refine hY v s₁ _ (End.bare_of_quiet he.1) rfl ?_ Γ p hΓ
      have e : (fun r' s'' => Seg.next M A R Y n c₀ (k₀ r') fs₀ s'') = fun r' s'' => ∃ m, n = m + 1 ∧ (End.susp v g₀ l₀ k₀ c₀ p₀ fs₀).genState.Goes M A R Y m r' s'' := by
        funext r' s''
        cases n with
        | zero => exact propext ⟨fun z => z.elim, fun ⟨m, z, _⟩ => by omega⟩
        | succ m => exact propext ⟨fun z => ⟨m, rfl, z⟩, fun ⟨m', z, y⟩ => by cases z; exact y⟩
      rw [← e]
      exact he.2
  have hqt : ∀ e₁ s₁, SegEnd R Y n (Seg.next M A R Y n) (s.setGen g .running) e₁ s₁ → e₁.quiet = true := by
    intro e₁ s₁ he
    cases e₁ with
    | ret x => rfl
    | susp v g₀ l₀ k₀ c₀ p₀ fs₀ => exact he.1
  cases gs with
  | fresh c =>
    obtain ⟨rfl, hs⟩ := hgo
    obtain ⟨e₁, s₁, hr, he⟩ := seg_iff.mp hs (Γ.wake c p) p rfl (hB c)
    exact ⟨_, _, by unfold Wakes; rw [hg]; exact ⟨e₁, s₁, hr, hqt e₁ s₁ he, rfl, rfl⟩, fin e₁ s₁ he⟩
  | suspended k₀ l₀ c₀ p₀ fs₀ cl =>
    obtain ⟨e₁, s₁, hr, he⟩ := seg_iff.mp hgo (Γ.wake c₀ p) p₀ rfl (hB c₀)
    exact ⟨_, _, by unfold Wakes; rw [hg]; exact ⟨e₁, s₁, hr, hqt e₁ s₁ he, rfl, rfl⟩, fin e₁ s₁ he⟩
  | running => exact hgo.elim
  | finished => exact hgo.elim
end
def GAt (P : Program) (w : World) (A : Around) (a : Addr) (g : Nat) (it L : Addr) (N i : Nat) (s : Shared) : Prop :=
  s.heap.IsListIter it L i ∧ s.heap.IsGen a g ∧ ∃ gs, s.gens[g]? = some gs ∧ asleep gs = true ∧ ∀ s'', LS it L N i s'' → gs.Goes (model P w) A (RL it) (YL it L N) (N - i) (.send .none) s''
section
variable {P : Program} {w : World} {A : Around} {E : Value → Shared → Prop} {s : Shared} {a it L : Addr} {g N i : Nat}
theorem next_genA {Q : Option Value → Shared → Prop} (hh : A.handled = none) (hl : s.heap.NoLimit) (hroom : A.depth < recursionLimit) (hG : GAt P w A.in1 a g it L N i s) (hL : ∃ its, s.heap.IsList L its ∧ its.size = N)
    (hY : ∀ v s₁ its gs', i < N → s.heap.IsList L its → its[i]? = some v → gs'.bare = true → asleep gs' = true → (∃ h tk, s₁ = { s.setGen g .running with heap := h, toks := tk } ∧ Heap.SameBut it s.heap h) → s₁.heap.IsListIter it L (i + 1) →
      (∀ s'', LS it L N (i + 1) s'' → gs'.Goes (model P w) A.in1 (RL it) (YL it L N) (N - (i + 1)) (.send .none) s'') → Q (some v) (s₁.setGen g gs'))
    (hP : N ≤ i → ∀ h tk, Heap.ExtBut it s.heap h → Q none { s.setGen g .finished with heap := h, toks := tk }) : wpAny (model P w) A (pyNext (.ref a)) Q E s := by
  obtain ⟨hit, hg, gs, hgs, hsl, hgo⟩ := hG
  have hgo := hgo (s.setGen g .running) ⟨hit, hL⟩
  unfold pyNext
  refine wpAny_bind (wpAny_attempt (wpAny_callSpecial?_slot (name := Str.ofString "__next__") hg.typeIs slot_gen_next
    (wpAny_call_entry slot_gen_next hg.typeIs entry_gen_next ?_ (args_gen_next _))))
  show wpAny _ A.in1 (Builtin.Generator.genWake (.ref a) (.send .none)) _ _ s
  unfold Builtin.Generator.genWake
  refine wpAny_bind (wpAny_holding (wpAny_genNumber hg (wpAny_bind (wpAny_genState hgs ?_))))
  cases gs with
  | running => exact hgo.elim
  | finished => exact hgo.elim
  | fresh => cases hsl
  | suspended k0 l0 c0 p0 fs0 cl0 =>
    refine wpAny_bind (wpAny_roomToWake hl hroom ?_)
    show wpAny _ A.in1 (.resume g (.send .none) [] _) _ _ s
    refine wpAny_resumeA (R := RL it) (Y := YL it L N) (n := N - i) hgs hgo (fun x s₁ hx => ?_) (fun v s₁ gs' hb hsl' hv => ?_)
    · have hx : RL it (N - i) (s.setGen g .running) x s₁ := hx
      obtain ⟨hn, hr, h1, tk1, rfl, hk1⟩ := hx
      have hres : End.result (.ret x) = .returned .none := by
        rcases hr with hr | hr <;> rw [hr] <;> rfl
      first | rw [hres] | simp only [hres]
      have fin : ∀ h, Heap.ExtBut it s.heap h → Q none { ({ s.setGen g .running with heap := h1, toks := tk1 } : Shared).setGen g .finished with heap := h } := fun h hk => by
        have z := hP (by omega) h tk1 hk
        have e : (({ s.setGen g .running with heap := h1, toks := tk1 } : Shared).setGen g .finished).gens = (s.setGen g .finished).gens := by
          show (s.gens.setIfInBounds g .running).setIfInBounds g .finished = s.gens.setIfInBounds g .finished
          exact Array.setIfInBounds_setIfInBounds ..
        show Q none (⟨h, (({ s.setGen g .running with heap := h1, toks := tk1 } : Shared).setGen g .finished).gens, s.drawn, tk1, s.os⟩ : Shared)
        rw [e]
        exact z
      show wpAny _ A.in1 (newExc (.type "StopIteration") [] >>= _) _ _ _
      refine wpAny_bind ?_
      simp only [newExc, newTuple]
      refine wpAny_bind (wpAny_newObj_type ?_ (by size_fits))
      refine wpAny_bind (m := firstArgMember _ _) (wpAny_of_eq (a := Value.none) (by first | rfl | (simp only [firstArgMember]; rfl)) ?_)
      refine wpAny_newObj_type ?_ (by size_fits)
      simp only [raiseNew]
      refine wpAny_bind (wpAny_bind (wpAny_handled ?_))
      first | rw [show A.in1.handled = none from hh] | rw [hh]
      refine wpAny_throw ?_
      refine wpAny_bind (wpAny_isInstance (T := "StopIteration") (b := true) ⟨_, Heap.get?_push_size _ rfl, rfl⟩ isSubtype_stop ?_)
      refine wpAny_pure (fin _ ((hk1.push _).push _))
    · obtain ⟨j, its, hj, hli, hx, hk, hit', hkap⟩ := hv
      obtain ⟨hp, tk', e1, hs⟩ := id hk
      have hne : L ≠ it := fun z => by
        obtain ⟨o, ho, hc, _⟩ := id hli
        obtain ⟨o2, ho2, hc2, _⟩ := id hit
        have ho' : s.heap.get? it = some o := by rw [← z]; exact ho
        rw [ho2] at ho'
        cases ho'
        rw [hc] at hc2
        exact absurd hc2 (by simp)
      have hl1 : s₁.heap.IsList L its := by
        obtain ⟨o, ho, r⟩ := hli
        exact ⟨o, by rw [e1]; exact hs.extBut _ _ hne ho, r⟩
      have hsz : its.size = N := by
        obtain ⟨its2, ⟨o2, ho2, _, _, hd2⟩, hs2⟩ := hL
        obtain ⟨o, ho, _, _, hd⟩ := id hli
        have ho' : s.heap.get? L = some o := ho
        rw [ho2] at ho'
        cases ho'
        rw [hd] at hd2
        cases hd2
        exact hs2
      obtain ⟨m, hm, _⟩ := hkap s₁ ⟨hit', its, hl1, hsz⟩
      have hji : j = i := by omega
      subst hji
      refine wpAny_pure ⟨v, rfl, wpAny_pure (hY v s₁ its gs' (by omega) hli hx hb hsl' hk hit' fun s'' z => ?_)⟩
      obtain ⟨m', hm', G'⟩ := hkap s'' z
      have e : N - (j + 1) = m' := by omega
      rw [e]
      exact G'
end
end Dl
namespace Dl
open PySem PySem.Spec PyProof.Rows L2 GenW
theorem asl_bare {D : Nat → Option GenState} {x y : Array GenState} (h : Asl D x y) (hb : AllBare x) (hd : ∀ i st, D i = some st → st.bare = true) : AllBare y := fun z hz => by
  obtain ⟨i, hi, e⟩ := Array.mem_iff_getElem.mp hz
  have hy : y[i]? = some z := by rw [Array.getElem?_eq_getElem hi, e]
  cases q : D i with
  | some st =>
    obtain ⟨_, _, h3⟩ := h.dead i st q
    rw [hy] at h3; cases h3
    exact hd i _ q
  | none =>
    have h1 := h.same i q
    rw [hy] at h1
    exact hb z (Array.mem_of_getElem? h1)
theorem bare_lameAll {x : Array GenState} (h : AllBare x) : AllBare (lameAll x) := fun z hz => by
  obtain ⟨i, hi, e⟩ := Array.mem_iff_getElem.mp hz
  have hy : (lameAll x)[i]? = some z := by rw [Array.getElem?_eq_getElem hi, e]
  simp only [lameAll, Array.getElem?_map] at hy
  cases hx : x[i]? with
  | none => rw [hx] at hy; cases hy
  | some st =>
    rw [hx] at hy
    cases hy
    rw [lame_bare]
    exact h st (Array.mem_of_getElem? hx)
theorem sleepers_bare {x : Array GenState} (h : AllBare x) : ∀ i st, sleepers x i = some st → st.bare = true := fun i st e => by
  unfold sleepers at e
  split at e
  · rename_i st' hx
    split at e
    · cases e; exact h _ (Array.mem_of_getElem? hx)
    · cases e
  · cases e
theorem sleepers_at {x : Array GenState} {g : Nat} {st : GenState} (h : x[g]? = some st) (hs : asleep st = true) : sleepers x g = some st := by
  unfold sleepers
  rw [h]
  show (if asleep st = true then some st else none) = some st
  rw [if_pos hs]
def XeG (X : Cx) : Prop := ∀ (D : Nat → Option GenState) (x : Array GenState) (e : Value) (s' : Shared), Tame x → Asl D x s'.gens → (∀ i st, D i = some st → st.bare = true) → X.xe e { s' with gens := x } → X.xe e s'
theorem xeG_of {X : Cx} {K : Value → Shared → Prop} (hx : X.xe = fun e s' => wpAny (model X.prog X.w) X.A (leaving X.env e) (fun _ s'' => K e s'') (fun e' s'' => K e' s'') s')
    (hK : ∀ (e : Value) (s' : Shared) (G : Array GenState), K e { s' with gens := G } → (AllBare G → AllBare s'.gens) → K e s') : XeG X := by
  intro D x e s' ht ha hd h
  rw [hx] at h ⊢
  intro Γ p hΓ
  have z := wp_asleep (D := D) (model X.prog X.w) Γ (leaving X.env e) _ _ p { s' with gens := x } s'.gens ht ha (h Γ p hΓ)
  exact Sem.wp_mono _ Γ _ (fun a p' s'' h' => let ⟨y, _, h2, h3⟩ := h'; hK e s'' y h3 fun hb => asl_bare h2 hb hd) (fun a p' s'' h' => let ⟨y, _, h2, h3⟩ := h'; hK a s'' y h3 fun hb => asl_bare h2 hb hd) _ _ z
theorem xeG_cx {P : Program} {w : World} {K : PySem.W.Frag} {mg : Str → Option Value} {base : Heap} {N : List Str} {qual : Str} {scope : Scope} {f : Addr} {cdv : Value} {A : Around} {outer : List Env} {s : Shared} {H : Hp} {E : XK} :
    XeG (cxD P w K mg base N qual scope f cdv A outer s H E) := xeG_of (X := cxD P w K mg base N qual scope f cdv A outer s H E) (K := fun e s'' => L2.CX P w outer H s E e s'') rfl fun e s' G h hb => by
  obtain ⟨a, B, H', cls, d, e1, fl, ok, ub, na, os, ag, z⟩ := h
  exact ⟨a, B, H', cls, d, e1, fl, ok, ub, na, os, hb ag, z⟩
theorem inv_regen {X : Cx} {pins : List (Addr × Obj)} {σ : L2.St} {H : Hp} {s : Shared} {G : Array GenState} (I : Inv X pins σ H { s with gens := G }) (hb : AllBare s.gens) : Inv X pins σ H s :=
  ⟨I.ok, I.os, hb, I.base, I.loc, I.cell, I.free, I.freeC, I.pin, I.hok, I.len⟩
theorem inv_lamed {X : Cx} {pins : List (Addr × Obj)} {σ : L2.St} {H : Hp} {s : Shared} (I : Inv X pins σ H s) : Inv X pins σ H { s with gens := lameAll s.gens } :=
  ⟨I.ok, I.os, bare_lameAll I.bare, I.base, I.loc, I.cell, I.free, I.freeC, I.pin, I.hok, I.len⟩
theorem inv_gens {X : Cx} {pins : List (Addr × Obj)} {σ : L2.St} {H : Hp} {s : Shared} {G : Array GenState} (I : Inv X pins σ H s) (hb : AllBare G) : Inv X pins σ H { s with gens := G } :=
  ⟨I.ok, I.os, hb, I.base, I.loc, I.cell, I.free, I.freeC, I.pin, I.hok, I.len⟩
theorem GAt.keep {P : Program} {w : World} {A : Around} {a : Addr} {g : Nat} {it L : Addr} {N i : Nat} {s s' : Shared} (h : GAt P w A a g it L N i s) (k1 : ∀ o, s.heap.get? it = some o → s'.heap.get? it = some o) (k2 : ∀ o, s.heap.get? a = some o → s'.heap.get? a = some o)
    (kg : ∀ gs, asleep gs = true → s.gens[g]? = some gs → s'.gens[g]? = some gs) : GAt P w A a g it L N i s' := by
  obtain ⟨⟨o, ho, r⟩, ⟨o2, nm, qn, ho2, r2⟩, gs, h1, h2, h3⟩ := h
  exact ⟨⟨o, k1 o ho, r⟩, ⟨o2, nm, qn, k2 o2 ho2, r2⟩, gs, kg gs h2 h1, h2, h3⟩
variable [TheW]
section
variable {X : Cx} {n : En} {tg : Expr} {body : List Stmt} {pos : Pos} {t : DS}
structure PIDG (X : Cx) (n : En) (k : Nat) (e : Expr) (w : DI) : Prop where
  run : ∀ (pins : List (Addr × Obj)) (s : Shared) (σ : L2.St) (H F : Hp) (ρ : List Addr) (st : Dst) (Q : List D → Dst → Prop) (E : DX), Inv X pins σ H s → Rl X.K n F ρ st σ H → TkD X n E → w st Q E →
    wpAny (model X.prog X.w) X.A (eval e X.env) (fun u s' => ∃ st1 H1 F1 ρ1 sc, Inv X pins σ H1 sc ∧ Post F ρ H F1 ρ1 H1 ∧ Rl X.K n F1 ρ1 st1 σ H1 ∧
      GNew X.prog X.w k X.stack H1 sc (fun xs L H' => ∃ ds st' F' ρ', Post F1 ρ1 H1 F' ρ' H' ∧ Rl X.K n F' ρ' st' σ H' ∧ F' L = some (.lst xs) ∧ RepL X.K F' ds xs ∧ Q ds st') u s') X.xe s
theorem psd_forG {iter : Expr} {wi : DI} {g : DG} {k : Nat} (hp : PassesOwn (model X.prog X.w) X.A X.env X.xe) (hc : X.calm = true) (hxe : XeG X) (hr : Room (k + 3) X.A) (hi : PIDG X n k iter wi) (hg : PGD X n tg g) (hb : PSSD X n body t)
    (hs : ∀ x, foldedSetIterable iter X.env x = pure x := by intro _; rfl) : PSD X n (.For tg iter body [] pos) (wFor wi g t) := by
  refine ⟨fun pins s σ H F ρ st B I R tk hw => ?_⟩
  refine wpAny_For (thn (hi.run pins s σ H F ρ st _ B.ex I R tk hw) fun u s1 ⟨st1, H1, F1, ρ1, sc, I1, p1, R1, hG⟩ => ?_) hs
  obtain ⟨a, ge, c, rfl, ha1, ha2, hg1, hgs, hos, hbare, hkp, wake⟩ := hG
  refine wpAny_pyIter_gen hg1 ?_
  have I1' : Inv X pins σ H1 s1 := I1.call' (ch := []) hos (Un.kept hkp) (I1.hok.kept hkp) hbare fun b z => by simp at z
  let Lat : Nat → Shared → Prop := fun m s' => ∃ (i : Nat) (xs : List V) (L it : Addr) (ds : List D) (F2 : Hp) (σ' : L2.St) (H' F' : Hp) (ρ' : List Addr) (st' : Dst), m = xs.length - i ∧ i ≤ xs.length ∧ xs.length ≤ sizeLine ∧ it ≠ a ∧ Inv X pins σ' H' s' ∧ GAt X.prog X.w X.A.in1 a ge it L xs.length i s' ∧
    FpOk X pins H' it ∧ FpOk X pins H' a ∧ Post F ρ H F' ρ' H' ∧ F2 L = some (.lst xs) ∧ RepL X.K F2 ds xs ∧ SubH F2 F' ∧ Rl X.K n F' ρ' st' σ' H' ∧ wForL g t B (ds.drop i) st'
  have turn : ∀ (m i : Nat) (xs : List V) (L it : Addr) (ds : List D) (F2 : Hp) (σ5 : L2.St) (H5 F5 : Hp) (ρ5 : List Addr) (st5 : Dst) (s5 : Shared) (x : V) (d : D) (u : Value), i < xs.length → xs.length - (i + 1) < m → xs.length ≤ sizeLine → it ≠ a → Inv X pins σ5 H5 s5 →
      GAt X.prog X.w X.A.in1 a ge it L xs.length (i + 1) s5 → FpOk X pins H5 it → FpOk X pins H5 a → Post F ρ H F5 ρ5 H5 → F2 L = some (.lst xs) → RepL X.K F2 ds xs → SubH F2 F5 → Rl X.K n F5 ρ5 st5 σ5 H5 → RelV x u → Rep X.K F5 d x → wForL g t B (d :: ds.drop (i + 1)) st5 →
      wpAny (model X.prog X.w) X.A (letOwnedTupleGo tg (.ref a) u) (fun _ s1' => wpAny (model X.prog X.w) X.A (assign tg X.env u) (fun _ s₂ => wpAny (model X.prog X.w) X.A (execs body X.env) (fun f s₃ => match f with
            | .next | .cont => ∃ m', m' < m ∧ Lat m' s₃
            | .brk => SPD X n pins F ρ H B .next s₃
            | .ret v => SPD X n pins F ρ H B (.ret v) s₃) X.xe s₂) X.xe s1') X.xe s5 := by
    intro m i xs L it ds F2 σ5 H5 F5 ρ5 st5 s5 x d u hi5 hm5 hle hne I5 G5 f5 f5a p5 eL rL sb R5 rx rd hw5
    obtain ⟨⟨oi, hoi, hci, hdi⟩, ⟨oa, nm, qn, hoa, hca, hda, hsla⟩, gs, hgs5, hsl5, hgo5⟩ := id G5
    refine go_of hoa hca hda (by decide) ?_
    have I5' : Inv X (pins ++ pinsAt [it, a] s5.heap) σ5 H5 s5 := I5.pinned (fun b hb => by
      rcases List.mem_cons.mp hb with z | z
      · rw [z]; exact f5
      · rw [List.mem_singleton.mp z]; exact f5a) fun b hb => by
      rcases List.mem_cons.mp hb with z | z
      · rw [z]; exact ⟨oi, hoi, fun v q => by rw [hdi] at q; cases q⟩
      · rw [List.mem_singleton.mp z]; exact ⟨oa, hoa, fun v q => by rw [hda] at q; cases q⟩
    have pit : (it, oi) ∈ pinsAt [it, a] s5.heap := mem_pinsAt (by simp) hoi
    have pa : (a, oa) ∈ pinsAt [it, a] s5.heap := mem_pinsAt (by simp) hoa
    -- what is pinned stays, and so does the generator
    have stay : ∀ {σ6 : L2.St} {H6 : Hp} {s6 : Shared}, Inv X (pins ++ pinsAt [it, a] s5.heap) σ6 H6 s6 → s6.gens[ge]? = some gs → GAt X.prog X.w X.A.in1 a ge it L xs.length (i + 1) s6 ∧ FpOk X pins H6 it ∧ FpOk X pins H6 a := fun {σ6 H6 s6} I6 e6 => by
      have q1 := I6.pin (it, oi) (List.mem_append_right _ (List.mem_append_right _ pit))
      have q2 := I6.pin (a, oa) (List.mem_append_right _ (List.mem_append_right _ pa))
      exact ⟨G5.keep (fun o e => by rw [hoi] at e; cases e; exact q1.1) (fun o e => by rw [hoa] at e; cases e; exact q2.1) fun gs' _ e => by rw [hgs5] at e; cases e; exact e6, ⟨q1.2.1, f5.2⟩, ⟨q2.2.1, f5a.2⟩⟩
    refine wpAny_mono (wpAny_asleep (s := s5) (hg.run _ _ σ5 H5 F5 ρ5 st5 (.d d) x u _ B.ex (inv_lamed I5') R5 tk rx rd hw5)) (fun _ s6 ⟨x6, as6, q6⟩ => ?_) fun e s' ⟨x6, ht6, as6, h6⟩ => hxe _ _ _ _ ht6 as6 (sleepers_bare I5.bare) h6
    obtain ⟨σ6, H6, F6, ρ6, st6, I6, p6, R6, h6⟩ := q6
    have I6 : Inv X (pins ++ pinsAt [it, a] s5.heap) σ6 H6 s6 := inv_regen I6 (asl_bare as6 I6.bare (sleepers_bare I5.bare))
    have e6 : s6.gens[ge]? = some gs := (as6.dead ge gs (sleepers_at hgs5 hsl5)).2.2
    have p56 := p5.trans p6 R5.ok.dom
    refine wpAny_mono (wpAny_asleep (s := s6) (hb.run _ _ σ6 H6 F6 ρ6 st6 _ (inv_lamed I6) R6 (by exact tk) h6)) (fun f s7 ⟨x7, as7, q7⟩ => ?_) fun e s' ⟨x7, ht7, as7, h7⟩ => hxe _ _ _ _ ht7 as7 (sleepers_bare I6.bare) h7
    have e7 : s7.gens[ge]? = some gs := (as7.dead ge gs (sleepers_at e6 hsl5)).2.2
    have bare7 : ∀ {σ7 : L2.St} {H7 : Hp}, Inv X (pins ++ pinsAt [it, a] s5.heap) σ7 H7 { s7 with gens := x7 } → Inv X (pins ++ pinsAt [it, a] s5.heap) σ7 H7 s7 := fun I7 => inv_regen I7 (asl_bare as7 I7.bare (sleepers_bare I6.bare))
    have again : ∀ {σ7 : L2.St} {H7 F7 : Hp} {ρ7 : List Addr} {st7 : Dst}, Inv X (pins ++ pinsAt [it, a] s5.heap) σ7 H7 { s7 with gens := x7 } → Post F6 ρ6 H6 F7 ρ7 H7 → Rl X.K n F7 ρ7 st7 σ7 H7 → wForL g t B (ds.drop (i + 1)) st7 → ∃ m', m' < m ∧ Lat m' s7 := fun {σ7 H7 F7 ρ7 st7} I7 p7 R7 h7 => by
      have I7 := bare7 I7
      obtain ⟨g7, f7, f7a⟩ := stay I7 e7
      exact ⟨xs.length - (i + 1), hm5, i + 1, xs, L, it, ds, F2, σ7, H7, F7, ρ7, st7, rfl, hi5, hle, hne, I7.unpinned, g7, f7, f7a, p56.trans p7 R6.ok.dom, eL, rL, (sb.trans p6.le).trans p7.le, R7, h7⟩
    cases f with
    | next => obtain ⟨σ7, H7, F7, ρ7, st7, I7, p7, R7, h7⟩ := q7; exact again I7 p7 R7 h7
    | cont => obtain ⟨σ7, H7, F7, ρ7, st7, I7, p7, R7, h7⟩ := q7; exact again I7 p7 R7 h7
    | brk => obtain ⟨σ7, H7, F7, ρ7, st7, I7, p7, R7, h7⟩ := q7; exact ⟨σ7, H7, F7, ρ7, st7, (bare7 I7).unpinned, p56.trans p7 R6.ok.dom, R7, h7⟩
    | ret v => obtain ⟨v', w7, σ7, H7, F7, ρ7, μ7, I7, rv, p7, po, ok7, rw7, h7⟩ := q7; exact ⟨v', w7, σ7, H7, F7, ρ7, μ7, (bare7 I7).unpinned, rv, p56.trans p7 R6.ok.dom, po, ok7, rw7, h7⟩
  have noted : ∀ {m : Nat} {u : Value} {s5 : Shared}, wpAny (model X.prog X.w) X.A (letOwnedTupleGo tg (.ref a) u) (fun _ s1' => wpAny (model X.prog X.w) X.A (assign tg X.env u) (fun _ s₂ => wpAny (model X.prog X.w) X.A (execs body X.env) (fun f s₃ => match f with
            | .next | .cont => ∃ m', m' < m ∧ Lat m' s₃
            | .brk => SPD X n pins F ρ H B .next s₃
            | .ret v => SPD X n pins F ρ H B (.ret v) s₃) X.xe s₂) X.xe s1') X.xe s5 →
      wpAny (model X.prog X.w) X.A (letOwnedTupleGo tg (.ref a) u) (fun _ s1' => wpAny (model X.prog X.w) X.A (assign tg X.env u) (fun _ s₂ => wpAny (model X.prog X.w) X.A (execs body X.env) (fun f s₃ => match f with
            | .next | .cont => ∃ m', m' < m ∧ ((m' = sizeLine + 1 ∧ s₃ = s1) ∨ Lat m' s₃)
            | .brk => SPD X n pins F ρ H B .next s₃
            | .ret v => SPD X n pins F ρ H B (.ret v) s₃) (notedBy (model X.prog X.w) X.A X.env (cameBackBy (model X.prog X.w) X.A X.env X.xe)) s₂) (notedBy (model X.prog X.w) X.A X.env (cameBackBy (model X.prog X.w) X.A X.env X.xe)) s1') (notedBy (model X.prog X.w) X.A X.env (cameBackBy (model X.prog X.w) X.A X.env X.xe)) s5 := fun {m u s5} h =>
    wpAny_passesOwn hp (wpAny_mono h (fun _ s6 h6 => wpAny_passesOwn hp (wpAny_mono h6 (fun _ s7 h7 => wpAny_passesOwn hp (wpAny_mono h7 (fun f s8 h8 => by
      cases f with
      | next => obtain ⟨m', a1, a2⟩ := h8; exact ⟨m', a1, .inr a2⟩
      | cont => obtain ⟨m', a1, a2⟩ := h8; exact ⟨m', a1, .inr a2⟩
      | brk => exact h8
      | ret v => exact h8) fun _ _ z => z)) fun _ _ z => z)) fun _ _ z => z)
  refine codeAny_forLoop_any (fun m s' => (m = sizeLine + 1 ∧ s' = s1) ∨ Lat m s') ?_ (sizeLine + 1) (.inl ⟨rfl, rfl⟩)
  rintro m s' (⟨rfl, rfl⟩ | hL)
  · have hgl : ge < s'.gens.size := (Array.getElem?_eq_some_iff.mp hgs).1
    refine wpAny_gsz (n := ge + 1) hgl (next_genF (I1'.ok.hd hc) I1'.nolimit hr.depth hg1 hgs (wake X.A.in1 (s'.setGen ge .running) (hr.mono (by omega) : Room (k + 1) X.A).in1 I1'.ok.frames (fun b o e => e) hos (allBare_setGen hbare rfl)) fun v s3 k' l' c' p' fs' hv => ?_)
    intro hsz
    obtain ⟨H3, L, it, x, xs, os3, bare3, un3, hok3, hL, hQ, hit, hge, hn3, hnea, hgen, hna, rx, hseg⟩ := hv
    obtain ⟨ds, st3, F3, ρ3, p3, R3, eL, rL, hw3⟩ := hQ
    have hw3 := hw3.run
    have hsz3 : ge < s3.gens.size := by
      have q : (s3.setGen ge (.suspended k' l' c' p' fs' false)).gens.size = s3.gens.size := setGen_size _ _ _
      have hsz : ge + 1 ≤ (s3.setGen ge (.suspended k' l' c' p' fs' false)).gens.size := hsz
      omega
    have I3 : Inv X pins σ H3 (s3.setGen ge (.suspended k' l' c' p' fs' false)) := I1.call' (ch := []) os3 un3 hok3 (allBare_setGen bare3 rfl) fun b z => by simp at z
    have G3 : GAt X.prog X.w X.A.in1 a ge it L (x :: xs).length 1 (s3.setGen ge (.suspended k' l' c' p' fs' false)) := ⟨hit, hgen, _, setGen_at hsz3, rfl, fun s'' z => hseg s'' z⟩
    obtain ⟨_, _, _, hle⟩ := I3.list (.of hL)
    cases ds with
    | nil => unfold RepL at rL; cases rL
    | cons d ds =>
      have rL0 := rL
      unfold RepL at rL
      obtain ⟨v1, t1, e2, rd, rL⟩ := rL
      cases e2
      exact noted (turn (sizeLine + 1) 0 (x :: xs) L it (d :: ds) F3 σ H3 F3 ρ3 st3 _ x d v (by simp) (by omega) hle hnea I3 G3 (I1.fpOk hge hn3) (I1.fpOk ha1 hna) (p1.trans p3 R1.ok.dom) eL rL0 (SubH.refl _) R3 rx rd hw3)
  · obtain ⟨i, xs, L, it, ds, F2, σ2, H2, F', ρ', st', rfl, hi, hle, hne, I2, G2, f2, f2a, p2, eL, rL, sb, R2, hw2⟩ := hL
    obtain ⟨f0, f1, f20, f3, f4, f5⟩ := f2
    have hLs : H2 L = some (.lst xs) := R2.ok.sub _ _ (sb _ _ eL)
    obtain ⟨its2, rits, pl, _⟩ := I2.list (.of hLs)
    have hlen : its2.toArray.size = xs.length := by
      have e := rits.length
      simp only [List.size_toArray]
      exact e.symm
    have hgl : ge < s'.gens.size := by
      obtain ⟨_, _, gs, hgs2, _⟩ := G2
      exact (Array.getElem?_eq_some_iff.mp hgs2).1
    have hds : ds.length = xs.length := rL.len
    refine wpAny_gsz (n := ge + 1) hgl (next_genA (I2.ok.hd hc) I2.nolimit hr.depth G2 ⟨_, pl.isList, hlen⟩ (fun v s3 its gs' hlt hli hx hb hsl hk hit' kap => ?_) fun hge h tk' hk => ?_)
    · intro hsz
      obtain ⟨h3, tk3, e3, hs3⟩ := hk
      subst e3
      have hsz3 : ge < (s'.gens.setIfInBounds ge .running).size := by simpa using hgl
      have I3 : Inv X pins σ2 H2 (({ s'.setGen ge .running with heap := h3, toks := tk3 } : Shared).setGen ge gs') :=
        inv_gens (s := { s' with heap := h3, toks := tk3 }) (I2.turned (t' := tk3) (fun b o hb e => hs3.extBut b o hb e) f0 f1 f3 f4 f5) (allBare_setGen (s := { s'.setGen ge .running with heap := h3, toks := tk3 }) (allBare_setGen I2.bare rfl) hb)
      obtain ⟨hit2, ⟨oa, nm, qn, hoa, ra⟩, _⟩ := id G2
      have G3 : GAt X.prog X.w X.A.in1 a ge it L xs.length (i + 1) (({ s'.setGen ge .running with heap := h3, toks := tk3 } : Shared).setGen ge gs') :=
        ⟨hit', ⟨oa, nm, qn, hs3.extBut _ _ (Ne.symm hne) hoa, ra⟩, gs', setGen_at (s := { s'.setGen ge .running with heap := h3, toks := tk3 }) hsz3, hsl, kap⟩
      have eits : its = its2.toArray := by
        obtain ⟨o, ho, _, _, hd⟩ := id hli
        obtain ⟨o2, ho2, _, _, hd2⟩ := pl.isList
        rw [ho2] at ho
        cases ho
        rw [hd] at hd2
        cases hd2
        rfl
      rw [eits] at hx
      have hx' : its2[i]? = some v := by simpa using hx
      obtain ⟨x, hxx⟩ : ∃ x, xs[i]? = some x := ⟨xs[i], List.getElem?_eq_getElem hlt⟩
      obtain ⟨u, hu, ru⟩ := rits.get hxx
      rw [hx'] at hu
      cases hu
      obtain ⟨d, ed, rd⟩ := rL.getV hxx
      have hlt' : i < ds.length := by omega
      have ed : ds[i] = d := by rw [List.getElem?_eq_getElem hlt'] at ed; exact Option.some.inj ed
      have edr : ds.drop i = d :: ds.drop (i + 1) := by rw [List.drop_eq_getElem_cons hlt', ed]
      rw [edr] at hw2
      exact noted (turn (xs.length - i) i xs L it ds F2 σ2 H2 F' ρ' st' _ x d v hlt (by omega) hle hne I3 G3 ⟨f0, f1, f20, f3, f4, f5⟩ f2a p2 eL rL sb R2 ru (Rep.sub sb _ _ rd) hw2)
    · intro _
      have e : i = xs.length := by omega
      have I3 : Inv X pins σ2 H2 { s'.setGen ge .finished with heap := h, toks := tk' } :=
        inv_gens (s := { s' with heap := h, toks := tk' }) (I2.turned (t' := tk') (fun b o hb e => hk b o hb e) f0 f1 f3 f4 f5) (allBare_setGen I2.bare rfl)
      have hd0 : ds.drop i = [] := List.drop_eq_nil_of_le (by omega)
      rw [hd0] at hw2
      exact wpAny_execs_nil ⟨σ2, H2, F', ρ', st', I3, p2, R2, hw2⟩
end
end Dl
namespace Dl
open PySem PySem.Spec PyProof.Rows L2 GenW
variable [TheW]
def SpGen (K : PySem.W.Frag) (m : Nat) (c : DSp) : SpL := fun vs H Q => SpD K m c vs H (fun v H' => ∃ L y ys, v = .ref L ∧ H' L = some (.lst (y :: ys)) ∧ Q (y :: ys) L H') noX
structure MtGen (P : Program) (w : World) (K : PySem.W.Frag) (mg : Str → Option Value) (base : Heap) (c m : Str) (k j : Nat) (sp : DSp) : Prop where
  ex : ∃ f fd ps, GFn P w K mg base k f fd ps (SpGen K j sp) ∧ Cls K (He.ga K c) ∧ Meth K (He.ga K c) m f ∧ Binds K fd ps []
structure YfB (P : Program) (w : World) (K : PySem.W.Frag) (mg : Str → Option Value) (base : Heap) (qual : Str) (st : Stmt) (N : List Str) (k : Nat) (we : DE) : Prop where
  ex : ∃ e yp pos, defBody st = [.Expr (.YieldFrom e yp) pos] ∧ ∀ (f : Addr) (cdv : Value) (A : Around) (outer : List Env) (s : Shared) (H : Hp) (n : En), Room k (A.deeper (envOfC qual (defScope st) s.heap.objs.size f cdv)) → PD (cxD P w K mg base N qual (defScope st) f cdv A outer s H noX) n e we
abbrev ReadG (sp : DSp) (m : Nat) (N : List Str) (we : DE) : Prop := ∀ ws μ Q E, ws.length = m → sp ws μ Q E → we ⟨startD N.length ws, μ⟩ (fun w st => Q w st.μ) (fun x st => E x st.μ)
section
variable {P : Program} {w : World} {K : PySem.W.Frag} {mg : Str → Option Value} {base : Heap} {x qual : Str} {st : Stmt} {N ps : List Str} {k : Nat} {sp : DSp} {we : DE} {f : Addr} {fd : FuncData}
theorem gfn_ofD (F : FunD K x qual (defArgs st) (defBody st) (defScope st) [] [] f fd) (S : GScope N ps (defScope st)) (hb : YfB P w K mg base qual st N k we) (hc : ReadG sp ps.length N we) : GFn P w K mg base (k + 1) f fd ps (SpGen K ps.length sp) := by
  obtain ⟨oc, od, dV, kV, doc, pm, an, cdv, ct, osl, rfl, lk, hcd, _, _⟩ := F.ex
  obtain ⟨e, yp, pos, eb, hb⟩ := hb.ex
  rw [eb] at lk ⊢
  refine gfn_list lk hcd S (fun vs H Q ⟨_, _, _, ws, _, _, _, r, hl, _⟩ => by rw [← r.len, hl]) fun A outer s H vs Q hr h => ?_
  obtain ⟨F0, ρ, μ, ws, QD, ED, ok, r, hl, h, hq, he⟩ := h
  refine ⟨_, (hb f cdv A outer s H ⟨F0, ρ, H⟩ hr).pe, ?_⟩
  have tk : TkD (cxD P w K mg base N qual (defScope st) f cdv A outer s H noX) ⟨F0, ρ, H⟩ (fun x st => ED x st.μ) :=
    (takes_of (X := cxD P w K mg base N qual (defScope st) f cdv A outer s H noX) rfl rfl rfl rfl).imp fun cls d σ H' ⟨st', F', ρ', x, R, rx, z⟩ => he x st'.μ cls d F' ρ' H' z R.po R.ok rx
  exact tE.use (rl_start (N := N) ok r) tk (hc ws μ QD ED hl h) fun v w' st' H' F' ρ' p R rw q => hq w' st'.μ v F' ρ' H' q p R.ok rw
theorem mtGen_of {c m : Str} (D : DfM K c m qual st []) (S : GScope N ps (defScope st)) (hb : YfB P w K mg base qual st N k we) (hc : ReadG sp ps.length N we)
    (bd : ∀ (kV doc pm : Value) (an : Option Addr) (cdv ct : Value) (us : List Value), us.length = ps.length → bindArgs (PySem.W.fnOf m qual (defArgs st) (defBody st) (defScope st) .none kV doc pm an cdv ct) ⟨us, []⟩ = pure (ps.zip us)) : MtGen P w K mg base c m (k + 1) ps.length sp := by
  obtain ⟨fd, F⟩ := D.ex
  exact ⟨_, fd, ps, gfn_ofD F S hb hc, D.cl, D.mt, F.bindsN bd⟩
end
section
variable {X : Cx} {n : En} {o e : Expr} {es : List Expr} {pos : Pos}
def wGen (c m : Str) (j : Nat) (sp : DSp) (wo : DE) (wa : DA) : DI := fun st Q E => wo st (fun o st1 => metP c m o st1.μ (wa st1 (fun ws st2 => (o :: ws).length = j ∧ wFn sp (o :: ws) st2 (fun v st3 => match v with
  | .d (.lst (x :: xs)) => Q (x :: xs) st3
  | _ => False) (fun _ _ => False)) E)) E
theorem run_gen {k j : Nat} {sp : DSp} {f : Addr} {fd : FuncData} {ps : List Str} {pins : List (Addr × Obj)} {s1 : Shared} {σ : L2.St} {H1 F1 : Hp} {ρ1 : List Addr} {st1 : Dst} {us : List Value} {vs : List V} {ws : List W} {Q : List D → Dst → Prop} {E1 : Value → Shared → Prop} (Fn : GFn X.prog X.w X.K X.mg X.base k f fd ps (SpGen X.K j sp)) (hr : Room k X.A) (hb : Binds X.K fd ps [])
    (I1 : Inv X pins σ H1 s1) (R1 : Rl X.K n F1 ρ1 st1 σ H1) (rv : Vals vs us) (rw : RepWL X.K F1 ρ1 ws vs) (hj : ws.length = j) (h : wFn sp ws st1 (fun v st3 => match v with
      | .d (.lst (x :: xs)) => Q (x :: xs) st3
      | _ => False) (fun _ _ => False)) :
    wpAny (model X.prog X.w) X.A (call (.ref f) us) (fun u s' => GNew X.prog X.w k X.stack H1 s1 (fun xs L H' => ∃ ds st' F' ρ', Post F1 ρ1 H1 F' ρ' H' ∧ Rl X.K n F' ρ' st' σ H' ∧ F' L = some (.lst xs) ∧ RepL X.K F' ds xs ∧ Q ds st') u s') E1 s1 := by
  have sp1 := call_sp (X := X) (n := n) (m := j) (σ := σ) (EX := noX) R1 rw hj h fun cls d H' ⟨_, _, _, _, _, _, z⟩ => z.elim
  obtain ⟨F0, ρ0, μ0, ws0, QD, ED, k1, k2, k3, k4, k5, k6⟩ := sp1
  have sp2 : SpGen X.K j sp vs H1 (fun xs L H' => ∃ ds st' F' ρ', Post F1 ρ1 H1 F' ρ' H' ∧ Rl X.K n F' ρ' st' σ H' ∧ F' L = some (.lst xs) ∧ RepL X.K F' ds xs ∧ Q ds st') := by
    refine ⟨F0, ρ0, μ0, ws0, QD, ED, k1, k2, k3, k4, fun w μ' v F' ρ' H' a1 a2 a3 a4 => ?_, k6⟩
    obtain ⟨w', st', F2, ρ2, b1, b2, b3, b4⟩ := k5 w μ' v F' ρ' H' a1 a2 a3 a4
    split at b4
    · rename_i d ds
      have b3 : Rep X.K F2 (.lst (d :: ds)) v := b3
      unfold Rep at b3
      obtain ⟨L, vs', rfl, e1, q⟩ := b3
      have q0 := q
      unfold RepL at q
      obtain ⟨v1, t1, rfl, q1, q2⟩ := q
      exact ⟨L, v1, t1, rfl, b2.ok.sub _ _ e1, d :: ds, st', F2, ρ2, b1, b2, e1, q0, b4⟩
    · exact b4.elim
  have hl2 : us.length = ps.length := by rw [← rv.length]; exact Fn.len _ _ _ sp2
  have bb := hb s1 us I1.kIn (by rw [List.append_nil]; exact hl2)
  rw [List.append_nil] at bb
  refine wpAny_call (codeAny_mono (Fn.run X.A X.stack s1 H1 ⟨us, []⟩ us vs _ hr I1.env0 bb rv sp2) fun r s' hq => ?_)
  cases r with
  | error e => exact False.elim hq
  | ok fl =>
    cases fl with
    | ret u => exact hq
    | next => exact False.elim hq
    | brk => exact False.elim hq
    | cont => exact False.elim hq
theorem pidg_meth0 {pl : Sem Bool} {c m : Str} {k j : Nat} {sp : DSp} {wo : DE} {apos : Pos} (D : MtGen X.prog X.w X.K X.mg X.base c m k j sp) (hr : Room k X.A) (ho : PD X n o wo)
    (ht : eval (.Call (.Attribute o m apos) [] [] pos) X.env = (do
      let ov ← eval o X.env
      standAt apos.atName
      let (f, first) ← holding [ov] (getMethod ov m pl)
      callWith pos f first (backTo pos (starEach [] X.env)) (backToKw pos (keywordEach [] X.env))) := by rfl) :
    PIDG X n k (.Call (.Attribute o m apos) [] [] pos) (wGen c m j sp wo wNil) := by
  obtain ⟨f, fd, ps, Fn, hc, hm, hb⟩ := D.ex
  refine ⟨fun pins s σ H F ρ st Q E I R tk hw => ?_⟩
  refine PySem.W.methodCall_KW (pl := pl) (thn (ho.run pins s σ H F ρ st _ E I R tk hw) fun u s1 ⟨v, o1, st1, H1, F1, ρ1, I1, rv, p1, R1, r1, h1⟩ => ?_) ht
  obtain ⟨a, dx, fs, rfl, ea, l⟩ := h1.at R1 r1
  obtain rfl : u = Value.ref a := rv
  refine getmeth_ok I1 ea hc hm l ?_
  have q := h1.go
  refine PySem.W.callWith_K0 (first := [.ref a]) I1.kIn hm.kp ?_
  exact thn (run_gen (us := [.ref a]) (vs := [.ref a]) (ws := [o1]) (σ := σ) (Q := Q) Fn hr hb I1 R1 (.cons rfl .nil) ⟨_, _, rfl, r1, rfl⟩ q.1 q.2) fun u s' hG => ⟨st1, H1, F1, ρ1, s1, I1, p1, R1, hG⟩
end
end Dl
namespace Lk10
open PySem PySem.Spec PyProof.Rows L2 Dl
theorem sc_over : FnScope [("deed" : Str), ("later" : Str), ("old" : Str), ("new" : Str)] [("deed" : Str), ("later" : Str)] (defScope s_over) := ⟨rfl, rfl, rfl, by decide +kernel, rfl, by decide +kernel, by decide +kernel⟩
theorem sc_is_sizes : FnScope [("value" : Str), ("sign" : Str)] [("value" : Str)] (defScope s_is_sizes) := ⟨rfl, rfl, rfl, by decide +kernel, rfl, by decide +kernel, by decide +kernel⟩
theorem sc_Board___init__ : FnScope [("self" : Str), ("sizes" : Str)] [("self" : Str), ("sizes" : Str)] (defScope s_Board___init__) := ⟨rfl, rfl, rfl, by decide +kernel, rfl, by decide +kernel, by decide +kernel⟩
theorem sc_Board_idle : FnScope [("self" : Str)] [("self" : Str)] (defScope s_Board_idle) := ⟨rfl, rfl, rfl, by decide +kernel, rfl, by decide +kernel, by decide +kernel⟩
theorem sc_Board_rows : FnScope [("self" : Str), ("more" : Str), ("found" : Str), ("size" : Str), ("row" : Str), ("sign" : Str)] [("self" : Str), ("more" : Str)] (defScope s_Board_rows) := ⟨rfl, rfl, rfl, by decide +kernel, rfl, by decide +kernel, by decide +kernel⟩
theorem sc_Board_all_states : GScope [("self" : Str)] [("self" : Str)] (defScope s_Board_all_states) := ⟨rfl, rfl, rfl, by decide +kernel, rfl, by decide +kernel, by decide +kernel⟩
theorem sc_Board_is_deed : FnScope [("self" : Str), ("value" : Str), ("sign" : Str), ("size" : Str)] [("self" : Str), ("value" : Str)] (defScope s_Board_is_deed) := ⟨rfl, rfl, rfl, by decide +kernel, rfl, by decide +kernel, by decide +kernel⟩
theorem sc_Board_is_state : FnScope [("self" : Str), ("value" : Str)] [("self" : Str), ("value" : Str)] (defScope s_Board_is_state) := ⟨rfl, rfl, rfl, by decide +kernel, rfl, by decide +kernel, by decide +kernel⟩
theorem sc_Board_need_deed : FnScope [("self" : Str), ("value" : Str)] [("self" : Str), ("value" : Str)] (defScope s_Board_need_deed) := ⟨rfl, rfl, rfl, by decide +kernel, rfl, by decide +kernel, by decide +kernel⟩
theorem sc_Board_need_state : FnScope [("self" : Str), ("value" : Str)] [("self" : Str), ("value" : Str)] (defScope s_Board_need_state) := ⟨rfl, rfl, rfl, by decide +kernel, rfl, by decide +kernel, by decide +kernel⟩
theorem sc_Board_then : FnScope [("self" : Str), ("deeds" : Str), ("found" : Str), ("deed" : Str)] [("self" : Str), ("deeds" : Str)] (defScope s_Board_then) := ⟨rfl, rfl, rfl, by decide +kernel, rfl, by decide +kernel, by decide +kernel⟩
theorem sc_Board_done : FnScope [("self" : Str), ("state" : Str), ("deeds" : Str)] [("self" : Str), ("state" : Str), ("deeds" : Str)] (defScope s_Board_done) := ⟨rfl, rfl, rfl, by decide +kernel, rfl, by decide +kernel, by decide +kernel⟩
theorem sc__law_cells : FnScope [("_law_script" : Str), ("_law_state" : Str), ("_law_cell" : Str)] [("_law_script" : Str)] (defScope s__law_cells) := ⟨rfl, rfl, rfl, by decide +kernel, rfl, by decide +kernel, by decide +kernel⟩
theorem sc__law_draw : FnScope [("_law_bag" : Str), ("_law_sides" : Str), ("_law_cell" : Str), ("_law_digit" : Str), ("_law_seed" : Str)] [("_law_bag" : Str), ("_law_sides" : Str)] (defScope s__law_draw) := ⟨rfl, rfl, rfl, by decide +kernel, rfl, by decide +kernel, by decide +kernel⟩
theorem sc__law_any : FnScope [("_law_bag" : Str), ("_law_things" : Str)] [("_law_bag" : Str), ("_law_things" : Str)] (defScope s__law_any) := ⟨rfl, rfl, rfl, by decide +kernel, rfl, by decide +kernel, by decide +kernel⟩
theorem sc__law_like : FnScope [("_law_found" : Str), ("_law_due" : Str), ("_law_a" : Str), ("_law_b" : Str)] [("_law_found" : Str), ("_law_due" : Str)] (defScope s__law_like) := ⟨rfl, rfl, rfl, by decide +kernel, rfl, by decide +kernel, by decide +kernel⟩
theorem sc__law_sizes : FnScope [("_law_bag" : Str), ("_law_most" : Str)] [("_law_bag" : Str), ("_law_most" : Str)] (defScope s__law_sizes) := ⟨rfl, rfl, rfl, by decide +kernel, rfl, by decide +kernel, by decide +kernel⟩
theorem sc__law_deed : FnScope [("_law_bag" : Str), ("_law_sizes_here" : Str), ("_law_size" : Str)] [("_law_bag" : Str), ("_law_sizes_here" : Str)] (defScope s__law_deed) := ⟨rfl, rfl, rfl, by decide +kernel, rfl, by decide +kernel, by decide +kernel⟩
theorem sc__law_behind : FnScope [("_law_first" : Str), ("_law_later" : Str), ("_law_at" : Str)] [("_law_first" : Str), ("_law_later" : Str)] (defScope s__law_behind) := ⟨rfl, rfl, rfl, by decide +kernel, rfl, by decide +kernel, by decide +kernel⟩
theorem sc_law : FnScope [("_law_script" : Str), ("_law_bag" : Str), ("_law_turn" : Str), ("_law_sizes_here" : Str), ("_law_board" : Str), ("_law_row" : Str), ("_law_whole" : Str), ("_law_due" : Str), ("_law_deed_here" : Str), ("_law_at" : Str), ("_law_late" : Str), ("_law_place" : Str), ("_law_left" : Str), ("_law_right" : Str), ("_law_again" : Str), ("_law_state" : Str), ("_law_k" : Str)] [("_law_script" : Str)] (defScope s_law) := ⟨rfl, rfl, rfl, by decide +kernel, rfl, by decide +kernel, by decide +kernel⟩
structure Gs (P : Program) (K : PySem.W.Frag) (mg : Str → Option Value) : Prop where
  d_over : Df K mg "over" s_over
  d_is_sizes : Df K mg "is_sizes" s_is_sizes
  d_Board___init__ : DfI K "Board" "Board.__init__" s_Board___init__ []
  d_Board_idle : DfP K "Board" "idle" "Board.idle" s_Board_idle
  d_Board_rows : DfM K "Board" "rows" "Board.rows" s_Board_rows []
  d_Board_all_states : DfM K "Board" "all_states" "Board.all_states" s_Board_all_states []
  d_Board_is_deed : DfM K "Board" "is_deed" "Board.is_deed" s_Board_is_deed []
  d_Board_is_state : DfM K "Board" "is_state" "Board.is_state" s_Board_is_state []
  d_Board_need_deed : DfM K "Board" "need_deed" "Board.need_deed" s_Board_need_deed []
  d_Board_need_state : DfM K "Board" "need_state" "Board.need_state" s_Board_need_state []
  d_Board_then : DfM K "Board" "then" "Board.then" s_Board_then []
  d_Board_done : DfM K "Board" "done" "Board.done" s_Board_done []
  d__law_cells : Df K mg "_law_cells" s__law_cells
  d__law_draw : Df K mg "_law_draw" s__law_draw
  d__law_any : Df K mg "_law_any" s__law_any
  d__law_like : Df K mg "_law_like" s__law_like
  d__law_sizes : Df K mg "_law_sizes" s__law_sizes
  d__law_deed : Df K mg "_law_deed" s__law_deed
  d__law_behind : Df K mg "_law_behind" s__law_behind
  d_law : Df K mg "law" s_law
  g_Board : mg "Board" = some (.ref (He.ga K "Board"))
  cl_Board : Cls K (He.ga K "Board")
  na_Board_own_sizes : NoAttr K (He.ga K "Board") "own_sizes"
  b_Board_done : BmF K "Board" "done"
  b_Board_then : BmF K "Board" "then"
  c_OPEN : ∃ t, mg "OPEN" = some (.str (mkS [46]) t)
  c_MOST_CELLS : ∃ t, mg "MOST_CELLS" = some (.int 5 t)
  c_VALUES : ∃ t, mg "VALUES" = some (.str (mkS [48, 49, 50]) t)
  x_InvalidDeed : XcD P K mg "InvalidDeed" [("given" : Str)] [73, 110, 118, 97, 108, 105, 100, 68, 101, 101, 100]
  x_InvalidState : XcD P K mg "InvalidState" [("given" : Str)] [73, 110, 118, 97, 108, 105, 100, 83, 116, 97, 116, 101]
  fr_zip : mg "zip" = none
  fr_len : mg "len" = none
  fr_isinstance : mg "isinstance" = none
  fr_str : mg "str" = none
  fr_all : mg "all" = none
  fr_int : mg "int" = none
  fr_list : mg "list" = none
  fr_tuple : mg "tuple" = none
  fr_bool : mg "bool" = none
  fr_range : mg "range" = none
  fr_super : mg "super" = none
  ans : AnsOk K (ansW [])
namespace Hd
theorem gs_of [TheW] {K : PySem.W.Frag} {mg : Str → Option Value} {w : World} {h : Heap} (X : K.In h) (G : h.Ns mainGlobals mg) (c : SaysP fa_ fn prs tf exB w h K) : Gs Rw.prog K mg where
  d_over := df_of X G c.x.t.d (i := 0) (j := 1) rfl rfl
  d_is_sizes := df_of X G c.x.t.d (i := 1) (j := 2) rfl rfl
  d_Board___init__ := dfI_of c.x.t.d (i := 2) (j := 3) (dfl := []) rfl rfl
  d_Board_idle := dfP_of c (i := 0) (j := 0) rfl rfl
  d_Board_rows := dfM_of c.x.t.d (i := 3) (j := 0) (l := 4) rfl rfl rfl
  d_Board_all_states := dfM_of c.x.t.d (i := 4) (j := 0) (l := 5) rfl rfl rfl
  d_Board_is_deed := dfM_of c.x.t.d (i := 5) (j := 0) (l := 6) rfl rfl rfl
  d_Board_is_state := dfM_of c.x.t.d (i := 6) (j := 0) (l := 7) rfl rfl rfl
  d_Board_need_deed := dfM_of c.x.t.d (i := 7) (j := 0) (l := 8) rfl rfl rfl
  d_Board_need_state := dfM_of c.x.t.d (i := 8) (j := 0) (l := 9) rfl rfl rfl
  d_Board_then := dfM_of c.x.t.d (i := 9) (j := 0) (l := 10) rfl rfl rfl
  d_Board_done := dfM_of c.x.t.d (i := 10) (j := 0) (l := 11) rfl rfl rfl
  d__law_cells := df_of X G c.x.t.d (i := 11) (j := 12) rfl rfl
  d__law_draw := df_of X G c.x.t.d (i := 12) (j := 13) rfl rfl
  d__law_any := df_of X G c.x.t.d (i := 13) (j := 14) rfl rfl
  d__law_like := df_of X G c.x.t.d (i := 14) (j := 15) rfl rfl
  d__law_sizes := df_of X G c.x.t.d (i := 15) (j := 16) rfl rfl
  d__law_deed := df_of X G c.x.t.d (i := 16) (j := 17) rfl rfl
  d__law_behind := df_of X G c.x.t.d (i := 17) (j := 18) rfl rfl
  d_law := df_of X G c.x.t.d (i := 18) (j := 19) rfl rfl
  x_InvalidDeed := ⟨Exi.xc1_of (ex_at c.more 0 rfl) (c.xi 1 rfl) (He.free_ok X G (c.x.t.d.fact 20 rfl)) (by decide +kernel) rfl ⟨⟨_, _, _, _, _, rfl, _, fun _ _ _ _ => rfl⟩, fun _ _ _ _ => rfl, fun _ _ _ _ => rfl⟩ ⟨fun _ _ _ _ => rfl⟩ ⟨fun _ _ _ _ => rfl⟩ (fun _ _ _ _ _ _ _ _ _ => rfl) ⟨_, rfl, rfl⟩ (by decide +kernel) (by decide +kernel) (by decide +kernel) (by decide +kernel) rfl rfl rfl (by decide +kernel) (by decide) (by decide), He.glo_ok X G (c.x.t.d.fact 21 rfl)⟩
  x_InvalidState := ⟨Exi.xc1_of (ex_at c.more 1 rfl) (c.xi 2 rfl) (He.free_ok X G (c.x.t.d.fact 22 rfl)) (by decide +kernel) rfl ⟨⟨_, _, _, _, _, rfl, _, fun _ _ _ _ => rfl⟩, fun _ _ _ _ => rfl, fun _ _ _ _ => rfl⟩ ⟨fun _ _ _ _ => rfl⟩ ⟨fun _ _ _ _ => rfl⟩ (fun _ _ _ _ _ _ _ _ _ => rfl) ⟨_, rfl, rfl⟩ (by decide +kernel) (by decide +kernel) (by decide +kernel) (by decide +kernel) rfl rfl rfl (by decide +kernel) (by decide) (by decide), He.glo_ok X G (c.x.t.d.fact 23 rfl)⟩
  g_Board := He.glo_ok X G (c.x.t.d.fact 24 rfl)
  cl_Board := He.cls_ok (c.x.t.d.fact 0 rfl)
  na_Board_own_sizes := He.noat_ok (c.x.t.d.fact 25 rfl)
  b_Board_done := bmF_ok (ex_at c.more 2 rfl)
  b_Board_then := bmF_ok (ex_at c.more 3 rfl)
  c_OPEN := He.str_ok X G (c.x.t.d.fact 26 rfl)
  c_MOST_CELLS := He.int_ok X G (c.x.t.d.fact 27 rfl)
  c_VALUES := He.str_ok X G (c.x.t.d.fact 28 rfl)
  fr_zip := He.free_ok X G (c.x.t.d.fact 29 rfl)
  fr_len := He.free_ok X G (c.x.t.d.fact 30 rfl)
  fr_isinstance := He.free_ok X G (c.x.t.d.fact 31 rfl)
  fr_str := He.free_ok X G (c.x.t.d.fact 32 rfl)
  fr_all := He.free_ok X G (c.x.t.d.fact 33 rfl)
  fr_int := He.free_ok X G (c.x.t.d.fact 34 rfl)
  fr_list := He.free_ok X G (c.x.t.d.fact 35 rfl)
  fr_tuple := He.free_ok X G (c.x.t.d.fact 36 rfl)
  fr_bool := He.free_ok X G (c.x.t.d.fact 37 rfl)
  fr_range := He.free_ok X G (c.x.t.d.fact 38 rfl)
  fr_super := He.free_ok X G (c.x.t.d.fact 39 rfl)
  ans := ansW_ok (ex_at c.more 4 rfl)
theorem ob_eq (s : PySem.W.SharedT) : ob s = (hookE 6 fa_ fn prs tf exB).obs s.abs := obsE_eq (HandSHeadRun.getT_eq s)
end Hd
section
variable [TheW]
def wb_over  : DS := (wRet (wM1 oJoin (wC (.str [])) (wLc (wZipA (wCons (wVar 0) (wCons (wVar 1) wNil))) (gT 2 (gsCons (gN 2) (gsCons (gN 3) gsNil))) wYes (wIf (wTest (wOp oEq (wVar 3) (wC (.str [46])))) (wVar 2) (wVar 3)) [2, 3])))
theorem bd_over {P : Program} {w : World} {K : PySem.W.Frag} {mg : Str → Option Value} {base : Heap} {k : Nat} (G : Gs P K mg)  :
    BodyD P w K mg base "over" s_over [("deed" : Str), ("later" : Str), ("old" : Str), ("new" : Str)] k (wb_over ) :=
  fun f cdv A outer s H E n hr => (pssd_one (psd_ret (pd_join (pd_str []) (pd_lc [("old", 2), ("new", 3)] rfl sc_over.nd (pid_zipA (by rfl) G.fr_zip (pad_cons (pd_var 0) (pad_cons (pd_var 1) pad_nil))) (by dsimp only [cxD, cxOf, Cx.blk, envOfC, compEnvC]; exact blkOk_by (by first | decide +kernel | rfl)) (fun _ _ _ _ _ => (pgw_tup rfl (pgsw_cons (pgw_name sc_over.nd) (pgsw_cons (pgw_name sc_over.nd) pgsw_nil)))) (fun _ _ _ _ _ => ptsd_nil) (fun _ _ _ _ _ => (pd_if (ptd_eq hr (pd_var 3) (pd_gStr [46] (by rfl) G.c_OPEN)) (pd_var 2) (pd_var 3)))))))
def wb_is_sizes  : DS := (wSeq (wIfS (wOrT (wNotT (wTest (wCall (oIsi (ansW [])) (wCons (wVar 0) (wCons (wC (.ty "str")) wNil))))) (wNotT (wTest (wChain oLe oLe (wC (.int 1)) (wLen (wVar 0)) (wC (.int 5)))))) (wRet (wC (.bl false))) wNext)
  (wRet (wCall oAll (wCons (wLc (wIt (wVar 0)) (gN 1) wYes (wOp (oIn false) (wVar 1) (wTup (wCons (wC (.str [50])) (wCons (wC (.str [51])) wNil)))) [1]) wNil))))
theorem bd_is_sizes {P : Program} {w : World} {K : PySem.W.Frag} {mg : Str → Option Value} {base : Heap} {k : Nat} (G : Gs P K mg)  :
    BodyD P w K mg base "is_sizes" s_is_sizes [("value" : Str), ("sign" : Str)] k (wb_is_sizes ) :=
  fun f cdv A outer s H E n hr => (pssd_cons (psd_if (PWD.pt (pwd_or (ptd_not (ptd_val (pd_isi G.ans (by rfl) G.fr_isinstance (pad_cons (pd_var 0) (pad_cons (pd_gTy (by rfl) G.fr_str (by decide +kernel)) pad_nil))))) (pwd_or1 (ptd_not (ptd_chain op_le op_le ops_le ops_le pd_int (pd_len (by rfl) G.fr_len (pd_var 0)) (pd_gInt (by rfl) G.c_MOST_CELLS))))))
  (pssd_one (psd_ret pd_bl))
  pssd_nil)
  (pssd_one (psd_ret (pd_all rfl (by rfl) G.fr_all (pad_cons (pd_lc [("sign", 1)] rfl sc_is_sizes.nd (pid_any (pd_var 0)) (by dsimp only [cxD, cxOf, Cx.blk, envOfC, compEnvC]; exact blkOk_by (by first | decide +kernel | rfl)) (fun _ _ _ _ _ => (pgw_name sc_is_sizes.nd)) (fun _ _ _ _ _ => ptsd_nil) (fun _ _ _ _ _ => (pd_in (pd_var 1) (pd_tup (pad_cons (pd_str [50]) (pad_cons (pd_str [51]) pad_nil)))))) pad_nil)))))
def wb_Board___init__ (c_is_sizes : DSp) : DS := (wSeq (wIfS (wNotT (wTest (wCalN 1 c_is_sizes (wCons (wVar 1) wNil)))) wNever wNext)
  (wSetF "Board" "own_sizes" (wVar 0) (wVar 1)))
theorem bd_Board___init__ {P : Program} {w : World} {K : PySem.W.Frag} {mg : Str → Option Value} {base : Heap} {k : Nat} (G : Gs P K mg) {k_is_sizes : Nat} {c_is_sizes : DSp} (l_is_sizes : k_is_sizes ≤ k) (h_is_sizes : FnD P w K mg base "is_sizes" k_is_sizes 1 c_is_sizes) :
    BodyQ P w K mg base "Board.__init__" s_Board___init__ [("self" : Str), ("sizes" : Str)] k (wb_Board___init__ c_is_sizes) :=
  fun f cdv A outer s H E n hr => (pssd_cons (psd_if (ptd_not (ptd_val (pd_calN h_is_sizes (hr.mono (by omega)) (by rfl) (pad_cons (pd_var 1) pad_nil))))
  (pssd_one psd_never)
  pssd_nil)
  (pssd_one (psd_fld G.cl_Board G.na_Board_own_sizes (pd_var 0) (pd_var 1))))
def wb_Board_idle  : DS := (wRet (wOp oMulA (wC (.str [46])) (wLen (wFld "Board" "own_sizes" (wVar 0)))))
theorem bd_Board_idle {P : Program} {w : World} {K : PySem.W.Frag} {mg : Str → Option Value} {base : Heap} {k : Nat} (G : Gs P K mg)  :
    BodyQ P w K mg base "Board.idle" s_Board_idle [("self" : Str)] k (wb_Board_idle ) :=
  fun f cdv A outer s H E n hr => (pssd_one (psd_ret (pd_mulA (pd_gStr [46] (by rfl) G.c_OPEN) (pd_len (by rfl) G.fr_len (pd_fld G.cl_Board G.na_Board_own_sizes (pd_var 0))))))
def wb_Board_rows  : DS := (wSeq (wAsg (wLst (wCons (wC (.str [])) wNil)) (gN 2))
  (wSeq (wFor (wIt (wFld "Board" "own_sizes" (wVar 0))) (gN 3) (wAsg (wLc2 (wIt (wVar 2)) (gN 4) wYes (wIt (wOp oAdd (wVar 1) (wSl (wC (.str [48, 49, 50])) wNoPart (wPart (wCall oIntS (wCons (wVar 3) wNil)))))) (gN 5) wYes (wOp oAdd (wVar 4) (wVar 5)) [4, 5] [5]) (gN 2)))
  (wRet (wVar 2))))
theorem bd_Board_rows {P : Program} {w : World} {K : PySem.W.Frag} {mg : Str → Option Value} {base : Heap} {k : Nat} (G : Gs P K mg)  :
    BodyQ P w K mg base "Board.rows" s_Board_rows [("self" : Str), ("more" : Str), ("found" : Str), ("size" : Str), ("row" : Str), ("sign" : Str)] k (wb_Board_rows ) :=
  fun f cdv A outer s H E n hr => (pssd_cons (psd_set (i := 2) sc_Board_rows.nd (pd_lst (pad_cons (pd_str []) pad_nil)))
  (pssd_cons (psd_for (passes_of rfl) rfl (pid_any (pd_fld G.cl_Board G.na_Board_own_sizes (pd_var 0))) (pgd_name sc_Board_rows.nd)
  (pssd_one (psd_setLc2 (i := 2) [("row", 4), ("sign", 5)] [5] rfl sc_Board_rows.nd (pid_any (pd_var 2)) (by dsimp only [cxD, cxOf, Cx.blk, envOfC, compEnvC]; exact blkOk_by (by first | decide +kernel | rfl)) (by decide) (fun _ _ _ _ _ => (pgw_name sc_Board_rows.nd)) (fun _ _ _ _ _ => ptsd_nil) (fun _ _ _ _ _ => (pid_any (pd_add (pd_var 1) (pd_slice (pd_gStr [48, 49, 50] (by rfl) G.c_VALUES) pod_none (pod_some (pd_intS (by rfl) G.fr_int (pad_cons (pd_var 3) pad_nil))))))) (fun _ _ _ _ _ => (pgw_name sc_Board_rows.nd)) (fun _ _ _ _ _ => ptsd_nil) (fun _ _ _ _ _ => (pd_add (pd_var 4) (pd_var 5))) rfl)))
  (pssd_one (psd_ret (pd_var 2)))))
def wb_Board_all_states (c_Board_rows : DSp) : DE := (wMeth "Board" "rows" 2 c_Board_rows (wVar 0) (wCons (wC (.str [])) wNil))
theorem bd_Board_all_states {P : Program} {w : World} {K : PySem.W.Frag} {mg : Str → Option Value} {base : Heap} {k : Nat} (G : Gs P K mg) {k_Board_rows : Nat} {c_Board_rows : DSp} (l_Board_rows : k_Board_rows ≤ k) (m_Board_rows : MtD P w K mg base "Board" "rows" k_Board_rows 2 c_Board_rows) :
    YfB P w K mg base "Board.all_states" s_Board_all_states [("self" : Str)] k (wb_Board_all_states c_Board_rows) :=
  ⟨_, _, _, rfl, fun f cdv A outer s H n hr => (pd_meth m_Board_rows (hr.mono (by omega)) (pd_var 0) (pad_cons (pd_str []) pad_nil))⟩
def wb_Board_is_deed  : DS := (wSeq (wIfS (wOrT (wNotT (wTest (wCall (oIsi (ansW [])) (wCons (wVar 1) (wCons (wC (.ty "str")) wNil))))) (wTest (wOp oNe (wLen (wVar 1)) (wLen (wFld "Board" "own_sizes" (wVar 0)))))) (wRet (wC (.bl false))) wNext)
  (wRet (wCall oAll (wCons (wLc (wZipA (wCons (wVar 1) (wCons (wFld "Board" "own_sizes" (wVar 0)) wNil))) (gT 2 (gsCons (gN 2) (gsCons (gN 3) gsNil))) wYes (wOp (oIn false) (wVar 2) (wOp oAdd (wC (.str [46])) (wSl (wC (.str [48, 49, 50])) wNoPart (wPart (wCall oIntS (wCons (wVar 3) wNil)))))) [2, 3]) wNil))))
theorem bd_Board_is_deed {P : Program} {w : World} {K : PySem.W.Frag} {mg : Str → Option Value} {base : Heap} {k : Nat} (G : Gs P K mg)  :
    BodyQ P w K mg base "Board.is_deed" s_Board_is_deed [("self" : Str), ("value" : Str), ("sign" : Str), ("size" : Str)] k (wb_Board_is_deed ) :=
  fun f cdv A outer s H E n hr => (pssd_cons (psd_if (PWD.pt (pwd_or (ptd_not (ptd_val (pd_isi G.ans (by rfl) G.fr_isinstance (pad_cons (pd_var 1) (pad_cons (pd_gTy (by rfl) G.fr_str (by decide +kernel)) pad_nil))))) (pwd_or1 (ptd_ne hr (pd_len (by rfl) G.fr_len (pd_var 1)) (pd_len (by rfl) G.fr_len (pd_fld G.cl_Board G.na_Board_own_sizes (pd_var 0)))))))
  (pssd_one (psd_ret pd_bl))
  pssd_nil)
  (pssd_one (psd_ret (pd_all rfl (by rfl) G.fr_all (pad_cons (pd_lc [("sign", 2), ("size", 3)] rfl sc_Board_is_deed.nd (pid_zipA (by rfl) G.fr_zip (pad_cons (pd_var 1) (pad_cons (pd_fld G.cl_Board G.na_Board_own_sizes (pd_var 0)) pad_nil))) (by dsimp only [cxD, cxOf, Cx.blk, envOfC, compEnvC]; exact blkOk_by (by first | decide +kernel | rfl)) (fun _ _ _ _ _ => (pgw_tup rfl (pgsw_cons (pgw_name sc_Board_is_deed.nd) (pgsw_cons (pgw_name sc_Board_is_deed.nd) pgsw_nil)))) (fun _ _ _ _ _ => ptsd_nil) (fun _ _ _ _ _ => (pd_in (pd_var 2) (pd_add (pd_gStr [46] (by rfl) G.c_OPEN) (pd_slice (pd_gStr [48, 49, 50] (by rfl) G.c_VALUES) pod_none (pod_some (pd_intS (by rfl) G.fr_int (pad_cons (pd_var 3) pad_nil)))))))) pad_nil)))))
def wb_Board_is_state (c_Board_is_deed : DSp) : DS := (wRet (wAndV (wMeth "Board" "is_deed" 2 c_Board_is_deed (wVar 0) (wCons (wVar 1) wNil)) (wOp (oIn true) (wC (.str [46])) (wVar 1))))
theorem bd_Board_is_state {P : Program} {w : World} {K : PySem.W.Frag} {mg : Str → Option Value} {base : Heap} {k : Nat} (G : Gs P K mg) {k_Board_is_deed : Nat} {c_Board_is_deed : DSp} (l_Board_is_deed : k_Board_is_deed ≤ k) (m_Board_is_deed : MtD P w K mg base "Board" "is_deed" k_Board_is_deed 2 c_Board_is_deed) :
    BodyQ P w K mg base "Board.is_state" s_Board_is_state [("self" : Str), ("value" : Str)] k (wb_Board_is_state c_Board_is_deed) :=
  fun f cdv A outer s H E n hr => (pssd_one (psd_ret (pd_and (pd_meth m_Board_is_deed (hr.mono (by omega)) (pd_var 0) (pad_cons (pd_var 1) pad_nil)) (pd_one (pd_notIn (pd_gStr [46] (by rfl) G.c_OPEN) (pd_var 1))))))
def wb_Board_need_deed (c_Board_is_deed : DSp) : DS := (wIfS (wNotT (wTest (wMeth "Board" "is_deed" 2 c_Board_is_deed (wVar 0) (wCons (wVar 1) wNil)))) (wRaise "InvalidDeed" [("given" : Str)] [73, 110, 118, 97, 108, 105, 100, 68, 101, 101, 100] (wCons (wVar 1) wNil)) wNext)
theorem bd_Board_need_deed {P : Program} {w : World} {K : PySem.W.Frag} {mg : Str → Option Value} {base : Heap} {k : Nat} (G : Gs P K mg) (l1 : 1 ≤ k) (x_InvalidDeed : XcD P K mg "InvalidDeed" [("given" : Str)] [73, 110, 118, 97, 108, 105, 100, 68, 101, 101, 100]) {k_Board_is_deed : Nat} {c_Board_is_deed : DSp} (l_Board_is_deed : k_Board_is_deed ≤ k) (m_Board_is_deed : MtD P w K mg base "Board" "is_deed" k_Board_is_deed 2 c_Board_is_deed) :
    BodyQ P w K mg base "Board.need_deed" s_Board_need_deed [("self" : Str), ("value" : Str)] k (wb_Board_need_deed c_Board_is_deed) :=
  fun f cdv A outer s H E n hr => (pssd_one (psd_if (ptd_not (ptd_val (pd_meth m_Board_is_deed (hr.mono (by omega)) (pd_var 0) (pad_cons (pd_var 1) pad_nil))))
  (pssd_one (psd_raise x_InvalidDeed (hr.mono (by omega)) rfl (by rfl) (pad_cons (pd_var 1) pad_nil)))
  pssd_nil))
def wb_Board_need_state (c_Board_is_state : DSp) : DS := (wIfS (wNotT (wTest (wMeth "Board" "is_state" 2 c_Board_is_state (wVar 0) (wCons (wVar 1) wNil)))) (wRaise "InvalidState" [("given" : Str)] [73, 110, 118, 97, 108, 105, 100, 83, 116, 97, 116, 101] (wCons (wVar 1) wNil)) wNext)
theorem bd_Board_need_state {P : Program} {w : World} {K : PySem.W.Frag} {mg : Str → Option Value} {base : Heap} {k : Nat} (G : Gs P K mg) (l1 : 1 ≤ k) (x_InvalidState : XcD P K mg "InvalidState" [("given" : Str)] [73, 110, 118, 97, 108, 105, 100, 83, 116, 97, 116, 101]) {k_Board_is_state : Nat} {c_Board_is_state : DSp} (l_Board_is_state : k_Board_is_state ≤ k) (m_Board_is_state : MtD P w K mg base "Board" "is_state" k_Board_is_state 2 c_Board_is_state) :
    BodyQ P w K mg base "Board.need_state" s_Board_need_state [("self" : Str), ("value" : Str)] k (wb_Board_need_state c_Board_is_state) :=
  fun f cdv A outer s H E n hr => (pssd_one (psd_if (ptd_not (ptd_val (pd_meth m_Board_is_state (hr.mono (by omega)) (pd_var 0) (pad_cons (pd_var 1) pad_nil))))
  (pssd_one (psd_raise x_InvalidState (hr.mono (by omega)) rfl (by rfl) (pad_cons (pd_var 1) pad_nil)))
  pssd_nil))
def wb_Board_then (c_Board_idle : DSp) (c_Board_need_deed : DSp) (c_over : DSp) : DS := (wSeq (wAsg (wProp "Board" c_Board_idle (wVar 0)) (gN 2))
  (wSeq (wFor (wIt (wVar 1)) (gN 3) (wSeq (wDrop (wMeth "Board" "need_deed" 2 c_Board_need_deed (wVar 0) (wCons (wVar 3) wNil)))
  (wAsg (wCalN 2 c_over (wCons (wVar 2) (wCons (wVar 3) wNil))) (gN 2))))
  (wRet (wVar 2))))
theorem bd_Board_then {P : Program} {w : World} {K : PySem.W.Frag} {mg : Str → Option Value} {base : Heap} {k : Nat} (G : Gs P K mg) {k_Board_idle : Nat} {c_Board_idle : DSp} (l_Board_idle : k_Board_idle + 1 ≤ k) (p_Board_idle : PrD P w K mg base "Board" "idle" k_Board_idle c_Board_idle) {k_Board_need_deed : Nat} {c_Board_need_deed : DSp} (l_Board_need_deed : k_Board_need_deed ≤ k) (m_Board_need_deed : MtD P w K mg base "Board" "need_deed" k_Board_need_deed 2 c_Board_need_deed) {k_over : Nat} {c_over : DSp} (l_over : k_over ≤ k) (h_over : FnD P w K mg base "over" k_over 2 c_over) :
    BodyQ P w K mg base "Board.then" s_Board_then [("self" : Str), ("deeds" : Str), ("found" : Str), ("deed" : Str)] k (wb_Board_then c_Board_idle c_Board_need_deed c_over) :=
  fun f cdv A outer s H E n hr => (pssd_cons (psd_set (i := 2) sc_Board_then.nd (pd_prop p_Board_idle (hr.mono (by omega)) (pd_var 0)))
  (pssd_cons (psd_for (passes_of rfl) rfl (pid_any (pd_var 1)) (pgd_name sc_Board_then.nd)
  (pssd_cons (psd_expr (pd_meth m_Board_need_deed (hr.mono (by omega)) (pd_var 0) (pad_cons (pd_var 3) pad_nil)))
  (pssd_one (psd_set (i := 2) sc_Board_then.nd (pd_calN h_over (hr.mono (by omega)) (by rfl) (pad_cons (pd_var 2) (pad_cons (pd_var 3) pad_nil)))))))
  (pssd_one (psd_ret (pd_var 2)))))
def wb_Board_done (c_Board_need_state : DSp) (c_Board_then : DSp) (c_over : DSp) : DS := (wSeq (wDrop (wMeth "Board" "need_state" 2 c_Board_need_state (wVar 0) (wCons (wVar 1) wNil)))
  (wRet (wCalN 2 c_over (wCons (wVar 1) (wCons (wMethSS "Board" "then" 1 c_Board_then (wVar 0) (wVar 2)) wNil)))))
theorem bd_Board_done {P : Program} {w : World} {K : PySem.W.Frag} {mg : Str → Option Value} {base : Heap} {k : Nat} (G : Gs P K mg) {k_Board_need_state : Nat} {c_Board_need_state : DSp} (l_Board_need_state : k_Board_need_state ≤ k) (m_Board_need_state : MtD P w K mg base "Board" "need_state" k_Board_need_state 2 c_Board_need_state) {k_Board_then : Nat} {c_Board_then : DSp} (l_Board_then : k_Board_then ≤ k) (s_Board_then : StD P w K mg base "Board" "then" k_Board_then 1 c_Board_then) {k_over : Nat} {c_over : DSp} (l_over : k_over ≤ k) (h_over : FnD P w K mg base "over" k_over 2 c_over) :
    BodyQ P w K mg base "Board.done" s_Board_done [("self" : Str), ("state" : Str), ("deeds" : Str)] k (wb_Board_done c_Board_need_state c_Board_then c_over) :=
  fun f cdv A outer s H E n hr => (pssd_cons (psd_expr (pd_meth m_Board_need_state (hr.mono (by omega)) (pd_var 0) (pad_cons (pd_var 1) pad_nil)))
  (pssd_one (psd_ret (pd_calN h_over (hr.mono (by omega)) (by rfl) (pad_cons (pd_var 1) (pad_cons (pd_methSS s_Board_then (hr.mono (by omega)) (pd_var 0) (pd_var 2)) pad_nil))))))
theorem bd__law_cells {P : Program} {w : World} {K : PySem.W.Frag} {mg : Str → Option Value} {base : Heap} {k : Nat} (G : Gs P K mg)  :
    BodyD P w K mg base "_law_cells" s__law_cells [("_law_script" : Str), ("_law_state" : Str), ("_law_cell" : Str)] k (wb_law_cells) :=
  fun f cdv A outer s H E n hr => (pssd_cons (psd_set (i := 1) sc__law_cells.nd pd_int)
  (pssd_cons (psd_for (passes_of rfl) rfl (pid_any (pd_sliceScr (pd_var 0) pod_none (pod_some pd_int))) (pgd_name sc__law_cells.nd)
  (pssd_one (psd_set (i := 1) sc__law_cells.nd (pd_mod (pd_intI (by rfl) G.fr_int (pad_cons (pd_add (pd_add (pd_mul (pd_var 1) pd_int) (pd_mod (pd_intI (by rfl) G.fr_int (pad_cons (pd_var 2) pad_nil)) pd_int)) pd_int) pad_nil)) pd_int))))
  (pssd_one (psd_ret (pd_lstN (pad_cons (pd_list rfl (by rfl) G.fr_list (pad_cons (pd_sliceScr (pd_var 0) pod_none (pod_some pd_int)) pad_nil)) (pad_cons pd_int (pad_cons pd_int (pad_cons (pd_var 1) (pad_cons pd_int pad_nil))))))))))
theorem bd__law_draw {P : Program} {w : World} {K : PySem.W.Frag} {mg : Str → Option Value} {base : Heap} {k : Nat} (G : Gs P K mg)  :
    BodyD P w K mg base "_law_draw" s__law_draw [("_law_bag" : Str), ("_law_sides" : Str), ("_law_cell" : Str), ("_law_digit" : Str), ("_law_seed" : Str)] k (wb_law_draw) :=
  fun f cdv A outer s H E n hr => (pssd_cons (psd_asg (pd_add (pd_ixW (pd_var 0) pd_int) pd_int) (pgd_sub (pd_var 0) pd_int))
  (pssd_cons (psd_if (PWD.pt (pwd_and (ptd_eq hr (pd_ixW (pd_var 0) pd_int) pd_int) (pwd_and1 (ptd_lt (pd_ixW (pd_var 0) pd_int) (pd_len (by rfl) G.fr_len (pd_ixW (pd_var 0) pd_int))))))
  (pssd_cons (psd_set (i := 2) sc__law_draw.nd (pd_ixW (pd_ixW (pd_var 0) pd_int) (pd_ixW (pd_var 0) pd_int)))
  (pssd_cons (psd_asg (pd_add (pd_ixW (pd_var 0) pd_int) pd_int) (pgd_sub (pd_var 0) pd_int))
  (pssd_one (psd_if (ptd_ge (pd_var 2) (pd_pow pd_int pd_int))
  (pssd_one (psd_asg (pd_var 2) (pgd_sub (pd_var 0) pd_int)))
  (pssd_one (psd_asg (pd_mod (pd_intI (by rfl) G.fr_int (pad_cons (pd_add (pd_add (pd_mul (pd_ixW (pd_var 0) pd_int) pd_int) (pd_mul (pd_mod (pd_intI (by rfl) G.fr_int (pad_cons (pd_var 2) pad_nil)) pd_int) pd_int)) pd_int) pad_nil)) pd_int) (pgd_sub (pd_var 0) pd_int)))))))
  pssd_nil)
  (pssd_cons (psd_if (ptd_gt (pd_ixW (pd_var 0) pd_int) pd_int)
  (pssd_cons (psd_set (i := 3) sc__law_draw.nd (pd_mod (pd_intI (by rfl) G.fr_int (pad_cons (pd_ixW (pd_var 0) pd_int) pad_nil)) (pd_var 1)))
  (pssd_cons (psd_asg (pd_fdiv (pd_ixW (pd_var 0) pd_int) (pd_var 1)) (pgd_sub (pd_var 0) pd_int))
  (pssd_one (psd_ret (pd_var 3)))))
  pssd_nil)
  (pssd_cons (psd_set (i := 4) sc__law_draw.nd (pd_ixW (pd_var 0) pd_int))
  (pssd_cons (psd_asg (pd_mod (pd_intI (by rfl) G.fr_int (pad_cons (pd_add (pd_add (pd_add (pd_pow (pd_var 4) pd_int) (pd_mul (pd_var 4) pd_int)) (pd_mul (pd_ixW (pd_var 0) pd_int) pd_int)) pd_int) pad_nil)) pd_int) (pgd_sub (pd_var 0) pd_int))
  (pssd_one (psd_ret (pd_mod (pd_intI (by rfl) G.fr_int (pad_cons (pd_add (pd_fdiv (pd_ixW (pd_var 0) pd_int) pd_int) (pd_mul (pd_mod (pd_intI (by rfl) G.fr_int (pad_cons (pd_ixW (pd_var 0) pd_int) pad_nil)) pd_int) pd_int)) pad_nil)) (pd_var 1)))))))))
theorem bd__law_any {P : Program} {w : World} {K : PySem.W.Frag} {mg : Str → Option Value} {base : Heap} {k : Nat} (G : Gs P K mg) {k__law_draw : Nat} {c__law_draw : DSp} (l__law_draw : k__law_draw ≤ k) (h__law_draw : FnD P w K mg base "_law_draw" k__law_draw 2 c__law_draw) :
    BodyD P w K mg base "_law_any" s__law_any [("_law_bag" : Str), ("_law_things" : Str)] k (wb_law_any c__law_draw) :=
  fun f cdv A outer s H E n hr => (pssd_one (psd_ret (pd_ixW (pd_var 1) (pd_calN h__law_draw (hr.mono (by omega)) (by rfl) (pad_cons (pd_var 0) (pad_cons (pd_len (by rfl) G.fr_len (pd_var 1)) pad_nil))))))
theorem bd__law_like {P : Program} {w : World} {K : PySem.W.Frag} {mg : Str → Option Value} {base : Heap} {k : Nat} (G : Gs P K mg) {k__law_like : Nat} {c__law_like : DSp} (l__law_like : k__law_like ≤ k) (h__law_like : FnD P w K mg base "_law_like" k__law_like 2 c__law_like) :
    BodyD P w K mg base "_law_like" s__law_like [("_law_found" : Str), ("_law_due" : Str), ("_law_a" : Str), ("_law_b" : Str)] k (wb_law_like (ansW []) c__law_like) :=
  fun f cdv A outer s H E n hr => (pssd_cons (psd_if (ptd_val (pd_isi G.ans (by rfl) G.fr_isinstance (pad_cons (pd_var 1) (pad_cons (pd_tup (pad_cons (pd_gTy (by rfl) G.fr_list (by decide +kernel)) (pad_cons (pd_gTy (by rfl) G.fr_tuple (by decide +kernel)) pad_nil))) pad_nil))))
  (pssd_cons (psd_if (PWD.pt (pwd_or (ptd_ne hr (pd_isi G.ans (by rfl) G.fr_isinstance (pad_cons (pd_var 0) (pad_cons (pd_gTy (by rfl) G.fr_list (by decide +kernel)) pad_nil))) (pd_isi G.ans (by rfl) G.fr_isinstance (pad_cons (pd_var 1) (pad_cons (pd_gTy (by rfl) G.fr_list (by decide +kernel)) pad_nil)))) (pwd_or1 (ptd_ne hr (pd_isi G.ans (by rfl) G.fr_isinstance (pad_cons (pd_var 0) (pad_cons (pd_gTy (by rfl) G.fr_tuple (by decide +kernel)) pad_nil))) (pd_isi G.ans (by rfl) G.fr_isinstance (pad_cons (pd_var 1) (pad_cons (pd_gTy (by rfl) G.fr_tuple (by decide +kernel)) pad_nil)))))))
  (pssd_one (psd_ret pd_bl))
  pssd_nil)
  (pssd_one (psd_ret (pd_and (pd_eq hr (pd_len (by rfl) G.fr_len (pd_var 0)) (pd_len (by rfl) G.fr_len (pd_var 1))) (pd_one (pd_all rfl (by rfl) G.fr_all (pad_cons (pd_lc [("_law_a", 2), ("_law_b", 3)] rfl sc__law_like.nd (pid_zip (by rfl) G.fr_zip (pad_cons (pd_var 0) (pad_cons (pd_var 1) pad_nil))) (by dsimp only [cxD, cxOf, Cx.blk, envOfC, compEnvC]; exact blkOk_by (by first | decide +kernel | rfl)) (fun _ _ _ _ _ => (pgw_tup rfl (pgsw_cons (pgw_name sc__law_like.nd) (pgsw_cons (pgw_name sc__law_like.nd) pgsw_nil)))) (fun _ _ _ _ _ => ptsd_nil) (fun _ _ _ _ _ => (pd_calN h__law_like (hr.mono (by omega)) (by rfl) (pad_cons (pd_var 2) (pad_cons (pd_var 3) pad_nil))))) pad_nil)))))))
  pssd_nil)
  (pssd_cons (psd_if (PWD.pt (pwd_or (ptd_isN (pd_var 1) pd_non) (pwd_or1 (ptd_isN (pd_var 0) pd_non))))
  (pssd_one (psd_ret (pd_and (pd_isN (pd_var 1) pd_non) (pd_one (pd_isN (pd_var 0) pd_non)))))
  pssd_nil)
  (pssd_cons (psd_if (PWD.pt (pwd_or (ptd_ne hr (pd_isi G.ans (by rfl) G.fr_isinstance (pad_cons (pd_var 1) (pad_cons (pd_gTy (by rfl) G.fr_bool (by decide +kernel)) pad_nil))) (pd_isi G.ans (by rfl) G.fr_isinstance (pad_cons (pd_var 0) (pad_cons (pd_gTy (by rfl) G.fr_bool (by decide +kernel)) pad_nil)))) (pwd_or1 (ptd_ne hr (pd_isi G.ans (by rfl) G.fr_isinstance (pad_cons (pd_var 1) (pad_cons (pd_gTy (by rfl) G.fr_int (by decide +kernel)) pad_nil))) (pd_isi G.ans (by rfl) G.fr_isinstance (pad_cons (pd_var 0) (pad_cons (pd_gTy (by rfl) G.fr_int (by decide +kernel)) pad_nil)))))))
  (pssd_one (psd_ret pd_bl))
  pssd_nil)
  (pssd_one (psd_ret (pd_and (pd_eq hr (pd_isi G.ans (by rfl) G.fr_isinstance (pad_cons (pd_var 1) (pad_cons (pd_gTy (by rfl) G.fr_str (by decide +kernel)) pad_nil))) (pd_isi G.ans (by rfl) G.fr_isinstance (pad_cons (pd_var 0) (pad_cons (pd_gTy (by rfl) G.fr_str (by decide +kernel)) pad_nil)))) (pd_one (pd_eq hr (pd_var 0) (pd_var 1)))))))))
def wb__law_sizes (c__law_any : DSp) : DS := (wRet (wCalN 2 c__law_any (wCons (wVar 0) (wCons (wSl (wLst (wCons (wC (.str [50, 50])) (wCons (wC (.str [50])) (wCons (wC (.str [50, 51])) (wCons (wC (.str [50, 50, 50])) (wCons (wC (.str [51])) (wCons (wC (.str [51, 50])) (wCons (wC (.str [50, 50, 51])) (wCons (wC (.str [51, 51])) wNil))))))))) wNoPart (wPart (wVar 1))) wNil))))
theorem bd__law_sizes {P : Program} {w : World} {K : PySem.W.Frag} {mg : Str → Option Value} {base : Heap} {k : Nat} (G : Gs P K mg) {k__law_any : Nat} {c__law_any : DSp} (l__law_any : k__law_any ≤ k) (h__law_any : FnD P w K mg base "_law_any" k__law_any 2 c__law_any) :
    BodyD P w K mg base "_law_sizes" s__law_sizes [("_law_bag" : Str), ("_law_most" : Str)] k (wb__law_sizes c__law_any) :=
  fun f cdv A outer s H E n hr => (pssd_one (psd_ret (pd_calN h__law_any (hr.mono (by omega)) (by rfl) (pad_cons (pd_var 0) (pad_cons (pd_slice (pd_lst (pad_cons (pd_str [50, 50]) (pad_cons (pd_str [50]) (pad_cons (pd_str [50, 51]) (pad_cons (pd_str [50, 50, 50]) (pad_cons (pd_str [51]) (pad_cons (pd_str [51, 50]) (pad_cons (pd_str [50, 50, 51]) (pad_cons (pd_str [51, 51]) pad_nil))))))))) pod_none (pod_some (pd_var 1))) pad_nil)))))
def wb__law_deed (c__law_any : DSp) : DS := (wRet (wM1 oJoin (wC (.str [])) (wLc (wIt (wVar 1)) (gN 2) wYes (wCalN 2 c__law_any (wCons (wVar 0) (wCons (wOp oAdd (wC (.str [46])) (wSl (wC (.str [48, 49, 50])) wNoPart (wPart (wCall oIntS (wCons (wVar 2) wNil))))) wNil))) [2])))
theorem bd__law_deed {P : Program} {w : World} {K : PySem.W.Frag} {mg : Str → Option Value} {base : Heap} {k : Nat} (G : Gs P K mg) {k__law_any : Nat} {c__law_any : DSp} (l__law_any : k__law_any ≤ k) (h__law_any : FnD P w K mg base "_law_any" k__law_any 2 c__law_any) :
    BodyD P w K mg base "_law_deed" s__law_deed [("_law_bag" : Str), ("_law_sizes_here" : Str), ("_law_size" : Str)] k (wb__law_deed c__law_any) :=
  fun f cdv A outer s H E n hr => (pssd_one (psd_ret (pd_join (pd_str []) (pd_lc [("_law_size", 2)] rfl sc__law_deed.nd (pid_any (pd_var 1)) (by dsimp only [cxD, cxOf, Cx.blk, envOfC, compEnvC]; exact blkOk_by (by first | decide +kernel | rfl)) (fun _ _ _ _ _ => (pgw_name sc__law_deed.nd)) (fun _ _ _ _ _ => ptsd_nil) (fun _ _ _ _ _ => (pd_calN h__law_any (hr.mono (by omega)) (by rfl) (pad_cons (pd_var 0) (pad_cons (pd_add (pd_str [46]) (pd_slice (pd_str [48, 49, 50]) pod_none (pod_some (pd_intS (by rfl) G.fr_int (pad_cons (pd_var 2) pad_nil))))) pad_nil))))))))
def wb__law_behind  : DS := (wRet (wM1 oJoin (wC (.str [])) (wLc (wRng1 (wCons (wLen (wVar 0)) wNil)) (gN 2) wYes (wIf (wTest (wOp oEq (wIx (wVar 1) (wVar 2)) (wC (.str [46])))) (wIx (wVar 0) (wVar 2)) (wIx (wVar 1) (wVar 2))) [2])))
theorem bd__law_behind {P : Program} {w : World} {K : PySem.W.Frag} {mg : Str → Option Value} {base : Heap} {k : Nat} (G : Gs P K mg)  :
    BodyD P w K mg base "_law_behind" s__law_behind [("_law_first" : Str), ("_law_later" : Str), ("_law_at" : Str)] k (wb__law_behind ) :=
  fun f cdv A outer s H E n hr => (pssd_one (psd_ret (pd_join (pd_str []) (pd_lc [("_law_at", 2)] rfl sc__law_behind.nd (pid_range1 (by rfl) G.fr_range (pad_cons (pd_len (by rfl) G.fr_len (pd_var 0)) pad_nil)) (by dsimp only [cxD, cxOf, Cx.blk, envOfC, compEnvC]; exact blkOk_by (by first | decide +kernel | rfl)) (fun _ _ _ _ _ => (pgw_name sc__law_behind.nd)) (fun _ _ _ _ _ => ptsd_nil) (fun _ _ _ _ _ => (pd_if (ptd_eq hr (pd_ixW (pd_var 1) (pd_var 2)) (pd_str [46])) (pd_ixW (pd_var 0) (pd_var 2)) (pd_ixW (pd_var 1) (pd_var 2))))))))
def wl1 (c_Board___init__ : DSp) (c_Board_all_states : DSp) (c_Board_done : DSp) (c_Board_idle : DSp) (c_Board_then : DSp) (c__law_any : DSp) (c__law_behind : DSp) (c__law_cells : DSp) (c__law_deed : DSp) (c__law_draw : DSp) (c__law_like : DSp) (c__law_sizes : DSp) : DS := (wAsg (wCalN 2 c__law_sizes (wCons (wVar 1) (wCons (wC (.int 8)) wNil))) (gN 3))
def wl2 (c_Board___init__ : DSp) (c_Board_all_states : DSp) (c_Board_done : DSp) (c_Board_idle : DSp) (c_Board_then : DSp) (c__law_any : DSp) (c__law_behind : DSp) (c__law_cells : DSp) (c__law_deed : DSp) (c__law_draw : DSp) (c__law_like : DSp) (c__law_sizes : DSp) : DS := (wPar 4 5 (wCons (wMake "Board" c_Board___init__ 2 [] (wCons (wVar 3) wNil)) (wCons (wLc (wRng1 (wCons (wOp oAdd (wC (.int 2)) (wCalN 2 c__law_draw (wCons (wVar 1) (wCons (wC (.int 5)) wNil)))) wNil)) (gN 16) wYes (wCalN 2 c__law_deed (wCons (wVar 1) (wCons (wVar 3) wNil))) [16]) wNil)))
def wl3 (c_Board___init__ : DSp) (c_Board_all_states : DSp) (c_Board_done : DSp) (c_Board_idle : DSp) (c_Board_then : DSp) (c__law_any : DSp) (c__law_behind : DSp) (c__law_cells : DSp) (c__law_deed : DSp) (c__law_draw : DSp) (c__law_like : DSp) (c__law_sizes : DSp) : DS := (wPar 6 7 (wCons (wProp "Board" c_Board_idle (wVar 4)) (wCons (wC (.str [])) wNil)))
def wl4 (c_Board___init__ : DSp) (c_Board_all_states : DSp) (c_Board_done : DSp) (c_Board_idle : DSp) (c_Board_then : DSp) (c__law_any : DSp) (c__law_behind : DSp) (c__law_cells : DSp) (c__law_deed : DSp) (c__law_draw : DSp) (c__law_like : DSp) (c__law_sizes : DSp) : DS := (wFor (wIt (wVar 5)) (gN 8) (wAsg (wMethSt "Board" "then" 1 c_Board_then (wVar 4) (wCons (wVar 6) (wCons (wVar 8) wNil))) (gN 6)))
def wl5 (c_Board___init__ : DSp) (c_Board_all_states : DSp) (c_Board_done : DSp) (c_Board_idle : DSp) (c_Board_then : DSp) (c__law_any : DSp) (c__law_behind : DSp) (c__law_cells : DSp) (c__law_deed : DSp) (c__law_draw : DSp) (c__law_like : DSp) (c__law_sizes : DSp) : DS := (wFor (wRng1 (wCons (wLen (wVar 3)) wNil)) (gN 9) (wSeq (wAsg (wLc (wIt (wVar 5)) (gN 8) (wTest (wOp oNe (wIx (wVar 8) (wVar 9)) (wC (.str [46])))) (wIx (wVar 8) (wVar 9)) [8]) (gN 10))
  (wAsg (wOp oAdd (wVar 7) (wIx (wOp oAdd (wVar 10) (wLst (wCons (wC (.str [46])) wNil))) (wIf (wTest (wOp oNe (wVar 10) (wLst wNil))) (wOp oSub (wLen (wVar 10)) (wC (.int 1))) (wC (.int 0))))) (gN 7))))
def wl6 (c_Board___init__ : DSp) (c_Board_all_states : DSp) (c_Board_done : DSp) (c_Board_idle : DSp) (c_Board_then : DSp) (c__law_any : DSp) (c__law_behind : DSp) (c__law_cells : DSp) (c__law_deed : DSp) (c__law_draw : DSp) (c__law_like : DSp) (c__law_sizes : DSp) : DS := (wAsg (wCalN 2 c__law_draw (wCons (wVar 1) (wCons (wLen (wVar 5)) wNil))) (gN 11))
def wl7 (c_Board___init__ : DSp) (c_Board_all_states : DSp) (c_Board_done : DSp) (c_Board_idle : DSp) (c_Board_then : DSp) (c__law_any : DSp) (c__law_behind : DSp) (c__law_cells : DSp) (c__law_deed : DSp) (c__law_draw : DSp) (c__law_like : DSp) (c__law_sizes : DSp) : DS := (wPar 12 13 (wCons (wProp "Board" c_Board_idle (wVar 4)) (wCons (wProp "Board" c_Board_idle (wVar 4)) wNil)))
def wl8 (c_Board___init__ : DSp) (c_Board_all_states : DSp) (c_Board_done : DSp) (c_Board_idle : DSp) (c_Board_then : DSp) (c__law_any : DSp) (c__law_behind : DSp) (c__law_cells : DSp) (c__law_deed : DSp) (c__law_draw : DSp) (c__law_like : DSp) (c__law_sizes : DSp) : DS := (wFor (wIt (wSl (wVar 5) wNoPart (wPart (wVar 11)))) (gN 8) (wAsg (wMethSt "Board" "then" 1 c_Board_then (wVar 4) (wCons (wVar 12) (wCons (wVar 8) wNil))) (gN 12)))
def wl9 (c_Board___init__ : DSp) (c_Board_all_states : DSp) (c_Board_done : DSp) (c_Board_idle : DSp) (c_Board_then : DSp) (c__law_any : DSp) (c__law_behind : DSp) (c__law_cells : DSp) (c__law_deed : DSp) (c__law_draw : DSp) (c__law_like : DSp) (c__law_sizes : DSp) : DS := (wFor (wIt (wSl (wVar 5) (wPart (wVar 11)) wNoPart)) (gN 8) (wAsg (wMethSt "Board" "then" 1 c_Board_then (wVar 4) (wCons (wVar 13) (wCons (wVar 8) wNil))) (gN 13)))
def wl10 (c_Board___init__ : DSp) (c_Board_all_states : DSp) (c_Board_done : DSp) (c_Board_idle : DSp) (c_Board_then : DSp) (c__law_any : DSp) (c__law_behind : DSp) (c__law_cells : DSp) (c__law_deed : DSp) (c__law_draw : DSp) (c__law_like : DSp) (c__law_sizes : DSp) : DS := (wAsg (wCalN 2 c__law_any (wCons (wVar 1) (wCons (wVar 5) wNil))) (gN 14))
def wl11 (c_Board___init__ : DSp) (c_Board_all_states : DSp) (c_Board_done : DSp) (c_Board_idle : DSp) (c_Board_then : DSp) (c__law_any : DSp) (c__law_behind : DSp) (c__law_cells : DSp) (c__law_deed : DSp) (c__law_draw : DSp) (c__law_like : DSp) (c__law_sizes : DSp) : DS := (wIfS (wNotT (wTest (wCalN 2 c__law_like (wCons (wLst (wCons (wVar 6) (wCons (wMethSt "Board" "then" 1 c_Board_then (wVar 4) (wCons (wVar 12) (wCons (wVar 13) wNil))) (wCons (wMethSt "Board" "then" 1 c_Board_then (wVar 4) (wCons (wVar 14) (wCons (wVar 6) wNil))) wNil)))) (wCons (wLst (wCons (wVar 7) (wCons (wVar 7) (wCons (wVar 7) wNil)))) wNil))))) (wRet (wC (.bl false))) wNext)
def wl12 (c_Board___init__ : DSp) (c_Board_all_states : DSp) (c_Board_done : DSp) (c_Board_idle : DSp) (c_Board_then : DSp) (c__law_any : DSp) (c__law_behind : DSp) (c__law_cells : DSp) (c__law_deed : DSp) (c__law_draw : DSp) (c__law_like : DSp) (c__law_sizes : DSp) : DS := (wIfS (wOrT (wTest (wOp oNe (wMethSt "Board" "then" 1 c_Board_then (wVar 4) (wCons (wVar 6) (wCons (wVar 6) wNil))) (wVar 6))) (wTest (wOp oNe (wMethSt "Board" "then" 1 c_Board_then (wVar 4) (wCons (wVar 14) (wCons (wVar 12) (wCons (wVar 14) wNil)))) (wMethSt "Board" "then" 1 c_Board_then (wVar 4) (wCons (wVar 12) (wCons (wVar 14) wNil)))))) (wRet (wC (.bl false))) wNext)
def wl13 (c_Board___init__ : DSp) (c_Board_all_states : DSp) (c_Board_done : DSp) (c_Board_idle : DSp) (c_Board_then : DSp) (c__law_any : DSp) (c__law_behind : DSp) (c__law_cells : DSp) (c__law_deed : DSp) (c__law_draw : DSp) (c__law_like : DSp) (c__law_sizes : DSp) : DS := (wFor (wGen "Board" "all_states" 1 c_Board_all_states (wVar 4) wNil) (gN 15) (wIfS (wNotT (wTest (wCalN 2 c__law_like (wCons (wMethSt "Board" "done" 2 c_Board_done (wVar 4) (wCons (wVar 15) (wCons (wVar 12) (wCons (wVar 13) wNil)))) (wCons (wCalN 2 c__law_behind (wCons (wVar 15) (wCons (wVar 7) wNil))) wNil))))) (wRet (wC (.bl false))) wNext))
def wb_law (c_Board___init__ : DSp) (c_Board_all_states : DSp) (c_Board_done : DSp) (c_Board_idle : DSp) (c_Board_then : DSp) (c__law_any : DSp) (c__law_behind : DSp) (c__law_cells : DSp) (c__law_deed : DSp) (c__law_draw : DSp) (c__law_like : DSp) (c__law_sizes : DSp) : DS := (wSeq (wAsg (wCalN 1 c__law_cells (wCons (wVar 0) wNil)) (gN 1))
  (wSeq (wFor (wRng1 (wCons (wC (.int 4)) wNil)) (gN 2) (wSeq (wl1 c_Board___init__ c_Board_all_states c_Board_done c_Board_idle c_Board_then c__law_any c__law_behind c__law_cells c__law_deed c__law_draw c__law_like c__law_sizes)
  (wSeq (wl2 c_Board___init__ c_Board_all_states c_Board_done c_Board_idle c_Board_then c__law_any c__law_behind c__law_cells c__law_deed c__law_draw c__law_like c__law_sizes)
  (wSeq (wl3 c_Board___init__ c_Board_all_states c_Board_done c_Board_idle c_Board_then c__law_any c__law_behind c__law_cells c__law_deed c__law_draw c__law_like c__law_sizes)
  (wSeq (wl4 c_Board___init__ c_Board_all_states c_Board_done c_Board_idle c_Board_then c__law_any c__law_behind c__law_cells c__law_deed c__law_draw c__law_like c__law_sizes)
  (wSeq (wl5 c_Board___init__ c_Board_all_states c_Board_done c_Board_idle c_Board_then c__law_any c__law_behind c__law_cells c__law_deed c__law_draw c__law_like c__law_sizes)
  (wSeq (wl6 c_Board___init__ c_Board_all_states c_Board_done c_Board_idle c_Board_then c__law_any c__law_behind c__law_cells c__law_deed c__law_draw c__law_like c__law_sizes)
  (wSeq (wl7 c_Board___init__ c_Board_all_states c_Board_done c_Board_idle c_Board_then c__law_any c__law_behind c__law_cells c__law_deed c__law_draw c__law_like c__law_sizes)
  (wSeq (wl8 c_Board___init__ c_Board_all_states c_Board_done c_Board_idle c_Board_then c__law_any c__law_behind c__law_cells c__law_deed c__law_draw c__law_like c__law_sizes)
  (wSeq (wl9 c_Board___init__ c_Board_all_states c_Board_done c_Board_idle c_Board_then c__law_any c__law_behind c__law_cells c__law_deed c__law_draw c__law_like c__law_sizes)
  (wSeq (wl10 c_Board___init__ c_Board_all_states c_Board_done c_Board_idle c_Board_then c__law_any c__law_behind c__law_cells c__law_deed c__law_draw c__law_like c__law_sizes)
  (wSeq (wl11 c_Board___init__ c_Board_all_states c_Board_done c_Board_idle c_Board_then c__law_any c__law_behind c__law_cells c__law_deed c__law_draw c__law_like c__law_sizes)
  (wSeq (wl12 c_Board___init__ c_Board_all_states c_Board_done c_Board_idle c_Board_then c__law_any c__law_behind c__law_cells c__law_deed c__law_draw c__law_like c__law_sizes)
  (wl13 c_Board___init__ c_Board_all_states c_Board_done c_Board_idle c_Board_then c__law_any c__law_behind c__law_cells c__law_deed c__law_draw c__law_like c__law_sizes))))))))))))))
  (wRet (wC (.bl true)))))
theorem bd_law {P : Program} {w : World} {K : PySem.W.Frag} {mg : Str → Option Value} {base : Heap} {k : Nat} (G : Gs P K mg) {k_Board___init__ : Nat} {c_Board___init__ : DSp} (l_Board___init__ : k_Board___init__ + 1 ≤ k) (i1_Board : MkD P w K mg base "Board" k_Board___init__ 2 [] c_Board___init__) {k_Board_all_states : Nat} {c_Board_all_states : DSp} (l_Board_all_states : k_Board_all_states + 3 ≤ k) (gn_Board_all_states : MtGen P w K mg base "Board" "all_states" k_Board_all_states 1 c_Board_all_states) {k_Board_done : Nat} {c_Board_done : DSp} (l_Board_done : k_Board_done ≤ k) (s_Board_done : StD P w K mg base "Board" "done" k_Board_done 2 c_Board_done) {k_Board_idle : Nat} {c_Board_idle : DSp} (l_Board_idle : k_Board_idle + 1 ≤ k) (p_Board_idle : PrD P w K mg base "Board" "idle" k_Board_idle c_Board_idle) {k_Board_then : Nat} {c_Board_then : DSp} (l_Board_then : k_Board_then ≤ k) (s_Board_then : StD P w K mg base "Board" "then" k_Board_then 1 c_Board_then) {k__law_any : Nat} {c__law_any : DSp} (l__law_any : k__law_any ≤ k) (h__law_any : FnD P w K mg base "_law_any" k__law_any 2 c__law_any) {k__law_behind : Nat} {c__law_behind : DSp} (l__law_behind : k__law_behind ≤ k) (h__law_behind : FnD P w K mg base "_law_behind" k__law_behind 2 c__law_behind) {k__law_cells : Nat} {c__law_cells : DSp} (l__law_cells : k__law_cells ≤ k) (h__law_cells : FnD P w K mg base "_law_cells" k__law_cells 1 c__law_cells) {k__law_deed : Nat} {c__law_deed : DSp} (l__law_deed : k__law_deed ≤ k) (h__law_deed : FnD P w K mg base "_law_deed" k__law_deed 2 c__law_deed) {k__law_draw : Nat} {c__law_draw : DSp} (l__law_draw : k__law_draw ≤ k) (h__law_draw : FnD P w K mg base "_law_draw" k__law_draw 2 c__law_draw) {k__law_like : Nat} {c__law_like : DSp} (l__law_like : k__law_like ≤ k) (h__law_like : FnD P w K mg base "_law_like" k__law_like 2 c__law_like) {k__law_sizes : Nat} {c__law_sizes : DSp} (l__law_sizes : k__law_sizes ≤ k) (h__law_sizes : FnD P w K mg base "_law_sizes" k__law_sizes 2 c__law_sizes) :
    BodyD P w K mg base "law" s_law [("_law_script" : Str), ("_law_bag" : Str), ("_law_turn" : Str), ("_law_sizes_here" : Str), ("_law_board" : Str), ("_law_row" : Str), ("_law_whole" : Str), ("_law_due" : Str), ("_law_deed_here" : Str), ("_law_at" : Str), ("_law_late" : Str), ("_law_place" : Str), ("_law_left" : Str), ("_law_right" : Str), ("_law_again" : Str), ("_law_state" : Str), ("_law_k" : Str)] k (wb_law c_Board___init__ c_Board_all_states c_Board_done c_Board_idle c_Board_then c__law_any c__law_behind c__law_cells c__law_deed c__law_draw c__law_like c__law_sizes) :=
  fun f cdv A outer s H E n hr => (pssd_cons (psd_set (i := 1) sc_law.nd (pd_calN h__law_cells (hr.mono (by omega)) (by rfl) (pad_cons (pd_var 0) pad_nil)))
  (pssd_cons (psd_for (passes_of rfl) rfl (pid_range1 (by rfl) G.fr_range (pad_cons pd_int pad_nil)) (pgd_name sc_law.nd)
  (pssd_cons (psd_set (i := 3) sc_law.nd (pd_calN h__law_sizes (hr.mono (by omega)) (by rfl) (pad_cons (pd_var 1) (pad_cons pd_int pad_nil))))
  (pssd_cons (psd_par (i := 4) (j := 5) rfl sc_law.nd (pad_cons (pd_make i1_Board (hr.mono (by omega)) (by rfl) (pad_cons (pd_var 3) pad_nil)) (pad_cons (pd_lc [("_law_k", 16)] rfl sc_law.nd (pid_range1 (by rfl) G.fr_range (pad_cons (pd_add pd_int (pd_calN h__law_draw (hr.mono (by omega)) (by rfl) (pad_cons (pd_var 1) (pad_cons pd_int pad_nil)))) pad_nil)) (by dsimp only [cxD, cxOf, Cx.blk, envOfC, compEnvC]; exact blkOk_by (by first | decide +kernel | rfl)) (fun _ _ _ _ _ => (pgw_name sc_law.nd)) (fun _ _ _ _ _ => ptsd_nil) (fun _ _ _ _ _ => (pd_calN h__law_deed (hr.mono (by omega)) (by rfl) (pad_cons (pd_var 1) (pad_cons (pd_var 3) pad_nil))))) pad_nil)))
  (pssd_cons (psd_par (i := 6) (j := 7) rfl sc_law.nd (pad_cons (pd_prop p_Board_idle (hr.mono (by omega)) (pd_var 4)) (pad_cons (pd_str []) pad_nil)))
  (pssd_cons (psd_for (passes_of rfl) rfl (pid_any (pd_var 5)) (pgd_name sc_law.nd)
  (pssd_one (psd_set (i := 6) sc_law.nd (pd_methSt s_Board_then (hr.mono (by omega)) (pd_var 4) (pad_cons (pd_var 6) (pad_cons (pd_var 8) pad_nil))))))
  (pssd_cons (psd_for (passes_of rfl) rfl (pid_range1 (by rfl) G.fr_range (pad_cons (pd_len (by rfl) G.fr_len (pd_var 3)) pad_nil)) (pgd_name sc_law.nd)
  (pssd_cons (psd_setLc (i := 10) [("_law_deed_here", 8)] rfl sc_law.nd (pid_any (pd_var 5)) (by dsimp only [cxD, cxOf, Cx.blk, envOfC, compEnvC]; exact blkOk_by (by first | decide +kernel | rfl)) (fun _ _ _ _ _ => (pgw_name sc_law.nd)) (fun _ _ _ _ _ => (ptsd_one (ptd_ne hr (pd_ixW (pd_var 8) (pd_var 9)) (pd_str [46])))) (fun _ _ _ _ _ => (pd_ixW (pd_var 8) (pd_var 9))) rfl)
  (pssd_one (psd_set (i := 7) sc_law.nd (pd_add (pd_var 7) (pd_ixW (pd_add (pd_var 10) (pd_lst (pad_cons (pd_str [46]) pad_nil))) (pd_if (ptd_ne hr (pd_var 10) (pd_lst pad_nil)) (pd_sub (pd_len (by rfl) G.fr_len (pd_var 10)) pd_int) pd_int)))))))
  (pssd_cons (psd_set (i := 11) sc_law.nd (pd_calN h__law_draw (hr.mono (by omega)) (by rfl) (pad_cons (pd_var 1) (pad_cons (pd_len (by rfl) G.fr_len (pd_var 5)) pad_nil))))
  (pssd_cons (psd_par (i := 12) (j := 13) rfl sc_law.nd (pad_cons (pd_prop p_Board_idle (hr.mono (by omega)) (pd_var 4)) (pad_cons (pd_prop p_Board_idle (hr.mono (by omega)) (pd_var 4)) pad_nil)))
  (pssd_cons (psd_for (passes_of rfl) rfl (pid_any (pd_slice (pd_var 5) pod_none (pod_some (pd_var 11)))) (pgd_name sc_law.nd)
  (pssd_one (psd_set (i := 12) sc_law.nd (pd_methSt s_Board_then (hr.mono (by omega)) (pd_var 4) (pad_cons (pd_var 12) (pad_cons (pd_var 8) pad_nil))))))
  (pssd_cons (psd_for (passes_of rfl) rfl (pid_any (pd_slice (pd_var 5) (pod_some (pd_var 11)) pod_none)) (pgd_name sc_law.nd)
  (pssd_one (psd_set (i := 13) sc_law.nd (pd_methSt s_Board_then (hr.mono (by omega)) (pd_var 4) (pad_cons (pd_var 13) (pad_cons (pd_var 8) pad_nil))))))
  (pssd_cons (psd_set (i := 14) sc_law.nd (pd_calN h__law_any (hr.mono (by omega)) (by rfl) (pad_cons (pd_var 1) (pad_cons (pd_var 5) pad_nil))))
  (pssd_cons (psd_if (ptd_not (ptd_val (pd_calN h__law_like (hr.mono (by omega)) (by rfl) (pad_cons (pd_lst (pad_cons (pd_var 6) (pad_cons (pd_methSt s_Board_then (hr.mono (by omega)) (pd_var 4) (pad_cons (pd_var 12) (pad_cons (pd_var 13) pad_nil))) (pad_cons (pd_methSt s_Board_then (hr.mono (by omega)) (pd_var 4) (pad_cons (pd_var 14) (pad_cons (pd_var 6) pad_nil))) pad_nil)))) (pad_cons (pd_lst (pad_cons (pd_var 7) (pad_cons (pd_var 7) (pad_cons (pd_var 7) pad_nil)))) pad_nil)))))
  (pssd_one (psd_ret pd_bl))
  pssd_nil)
  (pssd_cons (psd_if (PWD.pt (pwd_or (ptd_ne hr (pd_methSt s_Board_then (hr.mono (by omega)) (pd_var 4) (pad_cons (pd_var 6) (pad_cons (pd_var 6) pad_nil))) (pd_var 6)) (pwd_or1 (ptd_ne hr (pd_methSt s_Board_then (hr.mono (by omega)) (pd_var 4) (pad_cons (pd_var 14) (pad_cons (pd_var 12) (pad_cons (pd_var 14) pad_nil)))) (pd_methSt s_Board_then (hr.mono (by omega)) (pd_var 4) (pad_cons (pd_var 12) (pad_cons (pd_var 14) pad_nil)))))))
  (pssd_one (psd_ret pd_bl))
  pssd_nil)
  (pssd_one (psd_forG (passes_of rfl) rfl xeG_cx (hr.mono (by omega)) (pidg_meth0 gn_Board_all_states (hr.mono (by omega)) (pd_var 4)) (pgd_name sc_law.nd)
  (pssd_one (psd_if (ptd_not (ptd_val (pd_calN h__law_like (hr.mono (by omega)) (by rfl) (pad_cons (pd_methSt s_Board_done (hr.mono (by omega)) (pd_var 4) (pad_cons (pd_var 15) (pad_cons (pd_var 12) (pad_cons (pd_var 13) pad_nil)))) (pad_cons (pd_calN h__law_behind (hr.mono (by omega)) (by rfl) (pad_cons (pd_var 15) (pad_cons (pd_var 7) pad_nil))) pad_nil)))))
  (pssd_one (psd_ret pd_bl))
  pssd_nil)))))))))))))))))
  (pssd_one (psd_ret pd_bl))))
def bd (s : List Nat) : D := .ins "Board" ["own_sizes"] [.str s]
structure SzOk (s : List Nat) : Prop where
  all : ∀ z ∈ s, z = 50 ∨ z = 51
  lo : 1 ≤ s.length
  hi : s.length ≤ 5
def vals (z : Nat) : List Nat := [48, 49, 50].take (z - 48)
def sizesB : D → Bool
  | .str x => decide (1 ≤ x.length) && decide (x.length ≤ 5) && x.all fun z => decide (z = 50 ∨ z = 51)
  | _ => false
def pv : D → Bool
  | .str x => decide (x.length ≤ 100000) && codesOk x
  | v => kOk v
theorem pv_k {v : D} (h : pv v = true) : kOk v = true := by
  cases v <;> first | rfl | (cases h; done)
theorem pv_str {x : List Nat} (h : pv (.str x) = true) : x.length ≤ 100000 ∧ codesOk x = true := by
  have h : (decide (x.length ≤ 100000) && codesOk x) = true := h
  rw [Bool.and_eq_true] at h
  exact ⟨of_decide_eq_true h.1, h.2⟩
theorem SzOk.len {s : List Nat} (h : SzOk s) : s.length ≤ 16777216 := Nat.le_trans h.hi (by decide)
theorem SzOk.codes {s : List Nat} (h : SzOk s) : codesOk s = true := List.all_eq_true.mpr fun c hc => decide_eq_true (by rcases h.all c hc with e | e <;> omega)
theorem SzOk.B {s : List Nat} (h : SzOk s) : sizesB (.str s) = true := by
  have h1 : decide (1 ≤ s.length) = true := decide_eq_true h.lo
  have h2 : decide (s.length ≤ 5) = true := decide_eq_true h.hi
  have h3 : (s.all fun z => decide (z = 50 ∨ z = 51)) = true := List.all_eq_true.mpr fun z hz => decide_eq_true (h.all z hz)
  show (decide (1 ≤ s.length) && decide (s.length ≤ 5) && s.all fun z => decide (z = 50 ∨ z = 51)) = true
  rw [h1, h2, h3]; rfl
def isDeedB (s : List Nat) : D → Bool
  | .str x => decide (x.length = s.length) && (x.zip s).all fun p => decide (p.1 ∈ 46 :: vals p.2)
  | _ => false
def isStateB (s : List Nat) (v : D) : Bool := isDeedB s v && match v with
  | .str x => !decide (46 ∈ x)
  | _ => false
theorem cut_vals {z : Nat} (h : z = 50 ∨ z = 51) : cutD [48, 49, 50] none (some ((z : Int) - 48)) = vals z := by
  rcases h with rfl | rfl <;> decide
theorem vals_len (z : Nat) : (vals z).length ≤ 3 := by unfold vals; rw [List.length_take]; exact Nat.min_le_right _ _
theorem vals_pos {z : Nat} (h : z = 50 ∨ z = 51) : 0 < (vals z).length := by rcases h with rfl | rfl <;> decide
theorem mem_zip2 {α β : Type} {xs : List α} {ys : List β} {p : α × β} (h : p ∈ xs.zip ys) : p.1 ∈ xs ∧ p.2 ∈ ys := ⟨(List.of_mem_zip (show (p.1, p.2) ∈ xs.zip ys from h)).1, (List.of_mem_zip (show (p.1, p.2) ∈ xs.zip ys from h)).2⟩
theorem noB {f : Str} (h : f ≠ "own_sizes") (x : D) : lookD f ["own_sizes"] [x] = none := by
  rw [lookD_miss h]; rfl
def sp_is_sizes : DSp := spDat fun ds Q _ => ∃ v, ds = [v] ∧ pv v = true ∧ Q (.bl (sizesB v))
def sp_Board_is_deed : DSp := spDat fun ds Q _ => ∃ s v, ds = [bd s, v] ∧ SzOk s ∧ pv v = true ∧ Q (.bl (isDeedB s v))
def sp_Board_is_state : DSp := spDat fun ds Q _ => ∃ s v, ds = [bd s, v] ∧ SzOk s ∧ pv v = true ∧ Q (.bl (isStateB s v))
theorem eqV_str (x y : List Nat) : eqV (.str (mkS x)) (.str (mkS y)) = decide (x = y) := by
  show decide ((mkS x : Str) = mkS y) = _
  exact decide_eq_decide.mpr mkS_inj
theorem in_23 {z : Nat} : inV (.str (mkS [z])) [V.str (mkS [50]), V.str (mkS [51])] = decide (z = 50 ∨ z = 51) := by
  show (eqV (.str (mkS [50])) (.str (mkS [z])) || (eqV (.str (mkS [51])) (.str (mkS [z])) || false)) = _
  rw [eqV_str, eqV_str]
  by_cases h : z = 50
  · subst h; rfl
  · by_cases h2 : z = 51
    · subst h2; rfl
    · simp [h, h2, Ne.symm h, Ne.symm h2]
theorem pu_is_sizes : Rd sp_is_sizes 2 wb_is_sizes := by
  rintro ws μ Q E ⟨ds, rfl, v, rfl, hv, hq⟩
  refine isiS (pv_k hv) (br (fun c => ?_) fun c => ?_)
  · refine brT rfl ?_
    cases v <;> first | (cases c; done) | exact hq
  · cases v <;> first | (cases c; done) | skip
    rename_i x
    obtain ⟨h1, h2⟩ := pv_str hv
    refine ⟨by omega, br (fun c1 => ?_) fun c1 => ?_⟩
    · have c1 := of_decide_eq_true c1
      refine br (fun c2 => ?_) fun c2 => ?_
      · have e : sizesB (.str x) = false := by
          have : ¬ x.length ≤ 5 := fun z => by
            have : decide ((x.length : Int) ≤ 5) = true := decide_eq_true (by omega)
            rw [this] at c2; cases c2
          show (decide (1 ≤ x.length) && decide (x.length ≤ 5) && _) = false
          rw [decide_eq_false this]; simp
        rw [e] at hq; exact hq
      · have l5 : x.length ≤ 5 := by
          have : decide ((x.length : Int) ≤ 5) = true := by simpa using c2
          have := of_decide_eq_true this
          omega
        have e : sizesB (.str x) = x.all fun z => decide (z = 50 ∨ z = 51) := by
          show (decide (1 ≤ x.length) && decide (x.length ≤ 5) && _) = _
          rw [decide_eq_true l5, decide_eq_true (show 1 ≤ x.length by omega)]; rfl
        rw [e] at hq
        refine lc_mapA x _ (fun z => .bl (decide (z = 50 ∨ z = 51))) μ (fun z hz K K2 k => ?_) (by omega) ⟨_, bools_map _ x, ?_⟩
        · refine brT rfl ⟨by decide, ?_⟩
          exact ⟨_, _, _, rfl, rfl, rfl, by rw [show (if false = true then _ else _) = _ from if_neg (by decide), in_23]; exact k⟩
        · rw [List.all_map]; exact hq
    · refine brT rfl ?_
      have e : sizesB (.str x) = false := by
        have : ¬ 1 ≤ x.length := fun z => by
          have : decide ((1 : Int) ≤ (x.length : Int)) = true := decide_eq_true (by omega)
          rw [this] at c1; cases c1
        show (decide (1 ≤ x.length) && decide (x.length ≤ 5) && _) = false
        rw [decide_eq_false this]; simp
      rw [e] at hq; exact hq
def sp_Board___init__ : DSp := fun ws μ Q _ => ∃ s, ws = [.loc 0, .d (.str s)] ∧ μ = [.ins "Board" [] []] ∧ SzOk s ∧ Q (.d .non) [.ins "Board" ["own_sizes"] [.str s]]
theorem pu_Board___init__ : Rd sp_Board___init__ 2 (wb_Board___init__ sp_is_sizes) := by
  rintro ws μ Q E ⟨s, rfl, rfl, hs, hq⟩
  refine ⟨rfl, wFn_dat [.str s] rfl ⟨.str s, rfl, ?_, ?_⟩⟩
  · show (decide (s.length ≤ 100000) && codesOk s) = true
    rw [decide_eq_true (show s.length ≤ 100000 by have := hs.hi; omega), hs.codes]; rfl
  rw [hs.B]
  exact brF rfl ⟨0, [], [], .str s, rfl, rfl, rfl, by decide, hq⟩
theorem pu_Board_is_deed : Rd sp_Board_is_deed 4 wb_Board_is_deed := by
  rintro ws μ Q E ⟨ds, rfl, s, v, rfl, hs, hv, hq⟩
  refine isiS (pv_k hv) (br (fun c => ?_) fun c => ?_)
  · refine brT rfl ?_
    cases v <;> first | (cases c; done) | exact hq
  · cases v <;> first | (cases c; done) | skip
    rename_i x
    obtain ⟨h1, h2⟩ := pv_str hv
    refine ⟨by omega, fld_d (lookD_hit _ _ _ _) ⟨hs.len, neI (br (fun c1 => ?_) fun c1 => ?_)⟩⟩
    · have e : isDeedB s (.str x) = false := by
        have : ¬ x.length = s.length := fun z => by rw [z] at c1; simp at c1
        show (decide (x.length = s.length) && _) = false
        rw [decide_eq_false this]; rfl
      rw [e] at hq; exact hq
    · have el : x.length = s.length := by
        have := c1
        simp only [Bool.not_eq_false', decide_eq_true_eq] at this
        omega
      have e : isDeedB s (.str x) = (x.zip s).all fun p => decide (p.1 ∈ 46 :: vals p.2) := by
        show (decide (x.length = s.length) && _) = _
        rw [decide_eq_true el]; rfl
      rw [e] at hq
      refine fld_d (lookD_hit _ _ _ _) (lc_zipA x s _ _ (fun p => .bl (decide (p.1 ∈ 46 :: vals p.2))) μ (fun p hp K K2 k => ?_) (by rw [List.length_zip]; omega) ⟨_, bools_map _ (x.zip s), ?_⟩)
      · have hz := hs.all _ (mem_zip2 hp).2
        refine ⟨rfl, brT rfl ⟨_, intD (c := p.2) (by omega), by simp, by decide, ?_⟩⟩
        rw [cut_vals hz]
        exact ⟨by have := vals_len p.2; simp only [List.length_singleton]; omega, k⟩
      · rw [List.all_map]; exact hq
theorem pu_Board_is_state : Rd sp_Board_is_state 2 (wb_Board_is_state sp_Board_is_deed) := by
  rintro ws μ Q E ⟨ds, rfl, s, v, rfl, hs, hv, hq⟩
  refine met_d (noB (by decide) _) ⟨rfl, wFn_dat [bd s, v] rfl ⟨s, v, rfl, hs, hv, br (fun c => ?_) fun c => ?_⟩⟩
  · cases v <;> first | (cases c; done) | skip
    rename_i x
    have e : isStateB s (.str x) = !decide (46 ∈ x) := by
      show (isDeedB s (.str x) && !decide (46 ∈ x)) = _
      rw [c]; rfl
    rw [e] at hq
    exact hq
  · have e : isStateB s v = false := by unfold isStateB; rw [c]; rfl
    rw [e] at hq
    exact hq
theorem lenS {x : List Nat} (h : x.length ≤ 100000) : lenD (.str x) = some x.length := by
  show (if x.length ≤ 16777216 then some x.length else none) = _
  rw [if_pos (by omega)]
theorem szOk_of {s : List Nat} (h : sizesB (.str s) = true) : SzOk s := by
  have h : (decide (1 ≤ s.length) && decide (s.length ≤ 5) && s.all fun z => decide (z = 50 ∨ z = 51)) = true := h
  obtain ⟨h1, h2⟩ := Bool.and_eq_true_iff.mp h
  obtain ⟨h3, h4⟩ := Bool.and_eq_true_iff.mp h1
  exact ⟨fun z hz => of_decide_eq_true (List.all_eq_true.mp h2 z hz), of_decide_eq_true h3, of_decide_eq_true h4⟩
structure DeedOk (s x : List Nat) : Prop where
  len : x.length = s.length
  all : ∀ p ∈ x.zip s, p.1 ∈ 46 :: vals p.2
structure StateOk (s x : List Nat) : Prop where
  len : x.length = s.length
  all : ∀ p ∈ x.zip s, p.1 ∈ vals p.2
theorem vals_code {z c : Nat} (h : c ∈ vals z) : c = 48 ∨ c = 49 ∨ c = 50 := by
  have := List.mem_of_mem_take h
  simpa using this
theorem StateOk.deed {s x : List Nat} (h : StateOk s x) : DeedOk s x := ⟨h.len, fun p hp => List.mem_cons_of_mem _ (h.all p hp)⟩
theorem zip_left {α β : Type} {xs : List α} {ys : List β} (e : xs.length = ys.length) {x : α} (h : x ∈ xs) : ∃ y, (x, y) ∈ xs.zip ys := by
  obtain ⟨i, hi, rfl⟩ := List.mem_iff_getElem.mp h
  refine ⟨ys[i], ?_⟩
  have : (xs.zip ys)[i]'(by rw [List.length_zip]; omega) = (xs[i], ys[i]) := by simp
  rw [← this]
  exact List.getElem_mem _
theorem DeedOk.code {s x : List Nat} (h : DeedOk s x) {c : Nat} (hc : c ∈ x) : c = 46 ∨ c = 48 ∨ c = 49 ∨ c = 50 := by
  obtain ⟨z, hz⟩ := zip_left h.len hc
  rcases List.mem_cons.mp (h.all _ hz) with e | e
  · exact .inl e
  · exact .inr (vals_code e)
theorem DeedOk.codes {s x : List Nat} (h : DeedOk s x) : codesOk x = true := List.all_eq_true.mpr fun c hc => decide_eq_true (by rcases h.code hc with e | e | e | e <;> omega)
theorem DeedOk.B {s x : List Nat} (h : DeedOk s x) : isDeedB s (.str x) = true := by
  show (decide (x.length = s.length) && (x.zip s).all fun p => decide (p.1 ∈ 46 :: vals p.2)) = true
  rw [decide_eq_true h.len]
  exact List.all_eq_true.mpr fun p hp => decide_eq_true (h.all p hp)
theorem DeedOk.of {s x : List Nat} (h : isDeedB s (.str x) = true) : DeedOk s x := by
  have h : (decide (x.length = s.length) && (x.zip s).all fun p => decide (p.1 ∈ 46 :: vals p.2)) = true := h
  obtain ⟨h1, h2⟩ := Bool.and_eq_true_iff.mp h
  exact ⟨of_decide_eq_true h1, fun p hp => of_decide_eq_true (List.all_eq_true.mp h2 p hp)⟩
theorem DeedOk.pv {s x : List Nat} (hs : SzOk s) (h : DeedOk s x) : pv (.str x) = true := by
  show (decide (x.length ≤ 100000) && codesOk x) = true
  rw [h.codes, decide_eq_true (by have := h.len; have := hs.hi; omega)]; rfl
theorem StateOk.no46 {s x : List Nat} (h : StateOk s x) : 46 ∉ x := fun hm => by
  obtain ⟨z, hz⟩ := zip_left h.len hm
  rcases vals_code (h.all _ hz) with e | e | e <;> omega
theorem StateOk.B {s x : List Nat} (h : StateOk s x) : isStateB s (.str x) = true := by
  show (isDeedB s (.str x) && !decide (46 ∈ x)) = true
  rw [h.deed.B, decide_eq_false h.no46]; rfl
theorem StateOk.of {s x : List Nat} (h : isStateB s (.str x) = true) : StateOk s x := by
  have h : (isDeedB s (.str x) && !decide (46 ∈ x)) = true := h
  obtain ⟨h1, h2⟩ := Bool.and_eq_true_iff.mp h
  have d := DeedOk.of h1
  have n : 46 ∉ x := by simpa using h2
  exact ⟨d.len, fun p hp => (List.mem_cons.mp (d.all p hp)).elim (fun e => absurd (e ▸ (mem_zip2 hp).1) n) id⟩
def sp__law_sizes : DSp := spBag fun ds Q _ => ∃ m : Int, ds = [.int m] ∧ (m = 7 ∨ m = 8) ∧ ∀ s, SzOk s → s.length ≤ 3 → Q (.str s)
def sp__law_deed : DSp := spBag fun ds Q _ => ∃ s, ds = [.str s] ∧ SzOk s ∧ ∀ x, DeedOk s x → Q (.str x)
theorem pu__law_sizes : Rd sp__law_sizes 2 (wb__law_sizes sp_law_any) := by
  rintro ws μ Q E ⟨ds, b, r, rfl, rfl, ok, m, rfl, hm, hq⟩
  have sz : ∀ s : List Nat, sizesB (.str s) = true → s.length ≤ 3 → ∀ b', BagOk b' → Q (.d (.str s)) (b' :: r) := fun s h l => hq s (szOk_of h) l
  have e8 : cutD [D.str [50, 50], .str [50], .str [50, 51], .str [50, 50, 50], .str [51], .str [51, 50], .str [50, 50, 51], .str [51, 51]] none (some 8) = [.str [50, 50], .str [50], .str [50, 51], .str [50, 50, 50], .str [51], .str [51, 50], .str [50, 50, 51], .str [51, 51]] := cutD_to _ 8
  have e7 : cutD [D.str [50, 50], .str [50], .str [50, 51], .str [50, 50, 50], .str [51], .str [51, 50], .str [50, 50, 51], .str [51, 51]] none (some 7) = [.str [50, 50], .str [50], .str [50, 51], .str [50, 50, 50], .str [51], .str [51, 50], .str [50, 50, 51]] := cutD_to _ 7
  rcases hm with rfl | rfl
  · refine ⟨by decide, rfl, wFn_bag 0 [.lst _] b rfl rfl ok ⟨_, 7, rfl, by rw [e7]; rfl, by decide, by decide, fun i hi => ?_⟩⟩
    rw [e7]
    have e : i = 0 ∨ i = 1 ∨ i = 2 ∨ i = 3 ∨ i = 4 ∨ i = 5 ∨ i = 6 := by omega
    rcases e with rfl | rfl | rfl | rfl | rfl | rfl | rfl <;> exact sz _ (by decide) (by decide)
  · refine ⟨by decide, rfl, wFn_bag 0 [.lst _] b rfl rfl ok ⟨_, 8, rfl, by rw [e8]; rfl, by decide, by decide, fun i hi => ?_⟩⟩
    rw [e8]
    have e : i = 0 ∨ i = 1 ∨ i = 2 ∨ i = 3 ∨ i = 4 ∨ i = 5 ∨ i = 6 ∨ i = 7 := by omega
    rcases e with rfl | rfl | rfl | rfl | rfl | rfl | rfl | rfl <;> exact sz _ (by decide) (by decide)
theorem pu__law_deed : Rd sp__law_deed 3 (wb__law_deed sp_law_any) := by
  rintro ws μ Q E ⟨ds, b, r, rfl, rfl, ok, s, rfl, hs, hq⟩
  refine lc_bagA 0 s _ (fun c => .str [c]) (fun z c => c ∈ 46 :: vals z) b rfl ok (fun z hz μ' b' hb' ok' K K2 k => ?_) hs.len fun ys b' hl hall ok' => ?_
  · have hz := hs.all z hz
    refine brT rfl ⟨_, intD (by omega), by simp, by decide, ?_⟩
    rw [cut_vals hz]
    have vl := vals_len z
    refine ⟨by simp only [List.length_singleton]; omega, rfl, wFn_bag 0 [.str ([46] ++ vals z)] b' rfl hb' ok' ⟨_, ([46] ++ vals z).length, rfl, lenS (by simp; omega), by simp, by simp; omega, fun i hi => ?_⟩⟩
    refine ⟨by simp; omega, ?_⟩
    rw [ix_nat hi]
    exact fun b2 ok2 => k _ b2 (by exact List.getElem_mem _) ok2
  · refine join_signs (by have := hs.hi; omega) ?_
    exact hq ys ⟨hl, fun p hp => hall (p.2, p.1) (by
      obtain ⟨i, hi, e⟩ := List.mem_iff_getElem.mp hp
      have h1 : i < ys.length := by rw [List.length_zip] at hi; omega
      have h2 : i < s.length := by omega
      have : (s.zip ys)[i]'(by rw [List.length_zip]; omega) = (p.2, p.1) := by rw [← e]; simp
      rw [← this]; exact List.getElem_mem _)⟩ b' ok'
def overL (x y : List Nat) : List Nat := (List.range x.length).map fun i => if y.getD i 0 = 46 then x.getD i 0 else y.getD i 0
theorem overL_len (x y : List Nat) : (overL x y).length = x.length := by unfold overL; simp
theorem overL_at {x y : List Nat} {i : Nat} (h : i < x.length) : (overL x y).getD i 0 = if y.getD i 0 = 46 then x.getD i 0 else y.getD i 0 := by
  unfold overL; simp [h]
theorem ext_at {x y : List Nat} (hl : x.length = y.length) (h : ∀ i, i < x.length → x.getD i 0 = y.getD i 0) : x = y := by
  refine List.ext_getElem hl fun i h1 h2 => ?_
  have := h i h1
  simpa [h1, h2] using this
theorem rep_at {n i : Nat} (h : i < n) : (List.replicate n 46).getD i 0 = 46 := by simp [h]
theorem overL_idle {x : List Nat} : overL x (List.replicate x.length 46) = x := ext_at (overL_len _ _) fun i hi => by
  rw [overL_len] at hi
  rw [overL_at hi, if_pos (rep_at hi)]
theorem idle_over {x : List Nat} {n : Nat} (hn : x.length = n) : overL (List.replicate n 46) x = x := ext_at (by rw [overL_len]; simp [hn]) fun i hi => by
  rw [overL_len, List.length_replicate] at hi
  rw [overL_at (by simpa using hi), rep_at hi]
  split
  · rename_i e; rw [e]
  · rfl
theorem over_assoc {x y z : List Nat} (h1 : y.length = x.length) (h2 : z.length = x.length) : overL (overL x y) z = overL x (overL y z) := ext_at (by simp [overL_len]) fun i hi => by
  rw [overL_len, overL_len] at hi
  rw [overL_at (by rw [overL_len]; exact hi), overL_at hi, overL_at hi, overL_at (by omega)]
  by_cases e : z.getD i 0 = 46
  · rw [if_pos e, if_pos e]
  · rw [if_neg e, if_neg e, if_neg e]
theorem zip_at {x y : List Nat} (h : x.length = y.length) : x.zip y = (List.range x.length).map fun i => (x.getD i 0, y.getD i 0) := by
  refine List.ext_getElem (by simp [h]) fun i h1 h2 => ?_
  have : i < x.length := by simpa using h2
  have h3 : i < y.length := by omega
  simp [this, h3]
theorem deed_ix {s x : List Nat} : DeedOk s x ↔ x.length = s.length ∧ ∀ i, i < s.length → x.getD i 0 ∈ 46 :: vals (s.getD i 0) := by
  constructor
  · intro h
    refine ⟨h.len, fun i hi => ?_⟩
    have := h.all (x.getD i 0, s.getD i 0) (by rw [zip_at h.len]; exact List.mem_map.mpr ⟨i, List.mem_range.mpr (by have := h.len; omega), rfl⟩)
    exact this
  · rintro ⟨hl, h⟩
    refine ⟨hl, fun p hp => ?_⟩
    rw [zip_at hl] at hp
    obtain ⟨i, hi, rfl⟩ := List.mem_map.mp hp
    exact h i (by have := List.mem_range.mp hi; omega)
theorem DeedOk.over {s x y : List Nat} (h1 : DeedOk s x) (h2 : DeedOk s y) : DeedOk s (overL x y) := by
  obtain ⟨a1, a2⟩ := deed_ix.mp h1
  obtain ⟨b1, b2⟩ := deed_ix.mp h2
  refine deed_ix.mpr ⟨by rw [overL_len]; exact a1, fun i hi => ?_⟩
  rw [overL_at (by omega)]
  split
  · exact a2 i hi
  · exact b2 i hi
theorem DeedOk.idle {s : List Nat} : DeedOk s (List.replicate s.length 46) := deed_ix.mpr ⟨by simp, fun i hi => by rw [rep_at hi]; exact .head _⟩
theorem code_at {x : List Nat} {i : Nat} (hx : codesOk x = true) (h : i < x.length) : codesOk [x.getD i 0] = true := codes_sub (fun c hc => by
  have : c = x.getD i 0 := by simpa using hc
  subst this
  simp [h]) hx
theorem over_codes {x y : List Nat} (hl : y.length = x.length) (hx : codesOk x = true) (hy : codesOk y = true) : codesOk (overL x y) = true := List.all_eq_true.mpr fun c hc => by
  unfold overL at hc
  obtain ⟨i, hi, rfl⟩ := List.mem_map.mp hc
  have hi := List.mem_range.mp hi
  have a := code_at hx hi
  have b := code_at (i := i) hy (by omega)
  unfold codesOk at a b
  rw [List.all_cons, Bool.and_eq_true] at a b
  split
  · exact a.1
  · exact b.1
theorem at_get {x : List Nat} {i : Nat} (h : i < x.length) : atI x (i : Int) = some (x.getD i 0) := atI_of (by simp [h])
theorem range_nat (n : Nat) : rangeD 0 (n : Int) = (List.range n).map fun (k : Nat) => D.int k := by unfold rangeD; simp
theorem over_map (x y : List Nat) : ((List.range x.length).map fun i => D.str [if y.getD i 0 = 46 then x.getD i 0 else y.getD i 0]) = (overL x y).map fun c => .str [c] := by
  unfold overL; rw [List.map_map]; rfl
def sp_over : DSp := spDat fun ds Q _ => ∃ x y, ds = [.str x, .str y] ∧ x.length = y.length ∧ x.length ≤ 1000 ∧ codesOk y = true ∧ Q (.str (overL x y))
theorem sing_eq (a b : Nat) : decide ([a] = [b]) = decide (a = b) := by by_cases h : a = b <;> simp [h]
theorem pu_over : Rd sp_over 4 wb_over := by
  rintro ws μ Q E ⟨ds, rfl, x, y, rfl, hl, hn, hy, hq⟩
  show lcP _ _ _ _ _ (zipD (x.map fun c => .str [c]) (y.map fun c => .str [c])) [] μ
  rw [zipD_map, zip_at hl, List.map_map]
  refine lc_mapA (List.range x.length) _ (fun i => .str [if y.getD i 0 = 46 then x.getD i 0 else y.getD i 0]) μ (fun i hi K K2 k => ?_) (by simp; omega) ?_
  · have hi := List.mem_range.mp hi
    refine ⟨rfl, brT rfl (Dl.eqT (code_at hy (by omega)) (by decide) ?_)⟩
    rw [sing_eq]
    exact br (fun c => by rw [if_pos (of_decide_eq_true c)] at k; exact k) fun c => by rw [if_neg (of_decide_eq_false c)] at k; exact k
  · rw [over_map]
    exact join_signs (by rw [overL_len]; omega) hq
def thenR (s : List Nat) : List Nat → List D → Except D (List Nat)
  | acc, [] => .ok acc
  | acc, d :: ds => match d with
    | .str x => if isDeedB s (.str x) = true then thenR s (overL acc x) ds else .error d
    | _ => .error d
theorem thenR_deed {s acc x : List Nat} {ds : List D} (h : DeedOk s x) : thenR s acc (.str x :: ds) = thenR s (overL acc x) ds := by
  show (if isDeedB s (.str x) = true then _ else _) = _
  rw [if_pos h.B]
theorem thenR_bad {s acc : List Nat} {v : D} {ds : List D} (h : isDeedB s v = false) : thenR s acc (v :: ds) = .error v := by
  cases v <;> first | rfl | skip
  show (if isDeedB s (.str _) = true then _ else _) = _
  rw [if_neg (by rw [h]; decide)]
theorem thenR_deeds {s : List Nat} : ∀ {xs : List (List Nat)} {acc : List Nat}, (∀ x ∈ xs, DeedOk s x) → thenR s acc (xs.map D.str) = .ok (xs.foldl overL acc)
  | [], _, _ => rfl
  | x :: xs, acc, h => by
    rw [List.map_cons, thenR_deed (h x (.head _)), thenR_deeds fun y hy => h y (.tail _ hy)]
    rfl
theorem fold_deed {s : List Nat} : ∀ {xs : List (List Nat)} {acc : List Nat}, DeedOk s acc → (∀ x ∈ xs, DeedOk s x) → DeedOk s (xs.foldl overL acc)
  | [], _, h, _ => h
  | x :: xs, acc, h, hx => show DeedOk s (xs.foldl overL (overL acc x)) from fold_deed (h.over (hx x (.head _))) fun y hy => hx y (.tail _ hy)
abbrev xDeed (v : D) : Ex := ⟨"InvalidDeed", ["given", "code"], [v, .str [73, 110, 118, 97, 108, 105, 100, 68, 101, 101, 100]]⟩
abbrev xState (v : D) : Ex := ⟨"InvalidState", ["given", "code"], [v, .str [73, 110, 118, 97, 108, 105, 100, 83, 116, 97, 116, 101]]⟩
def sp_Board_need_deed : DSp := spDat fun ds Q E => ∃ s v, ds = [bd s, v] ∧ SzOk s ∧ pv v = true ∧ (isDeedB s v = true → Q .non) ∧ (isDeedB s v = false → E (xDeed v))
theorem pu_Board_need_deed : Rd sp_Board_need_deed 2 (wb_Board_need_deed sp_Board_is_deed) := by
  rintro ws μ Q E ⟨ds, rfl, s, v, rfl, hs, hv, h1, h2⟩
  refine met_d (noB (by decide) _) ⟨rfl, wFn_dat [bd s, v] rfl ⟨s, v, rfl, hs, hv, ?_⟩⟩
  cases hb : isDeedB s v with
  | true => exact brF rfl (h1 hb)
  | false => exact brT rfl ⟨[v], rfl, rfl, h2 hb⟩
def sp_Board_need_state : DSp := spDat fun ds Q E => ∃ s v, ds = [bd s, v] ∧ SzOk s ∧ pv v = true ∧ (isStateB s v = true → Q .non) ∧ (isStateB s v = false → E (xState v))
theorem pu_Board_need_state : Rd sp_Board_need_state 2 (wb_Board_need_state sp_Board_is_state) := by
  rintro ws μ Q E ⟨ds, rfl, s, v, rfl, hs, hv, h1, h2⟩
  refine met_d (noB (by decide) _) ⟨rfl, wFn_dat [bd s, v] rfl ⟨s, v, rfl, hs, hv, ?_⟩⟩
  cases hb : isStateB s v with
  | true => exact brF rfl (h1 hb)
  | false => exact brT rfl ⟨[v], rfl, rfl, h2 hb⟩
theorem mulC (c k : Nat) : (List.replicate k [c]).flatten = List.replicate k c := by
  induction k with
  | zero => rfl
  | succ k ih => rw [List.replicate_succ, List.flatten_cons, ih]; rfl
def sp_Board_idle : DSp := spDat fun ds Q _ => ∃ s, ds = [bd s] ∧ SzOk s ∧ Q (.str (List.replicate s.length 46))
theorem pu_Board_idle : Rd sp_Board_idle 1 wb_Board_idle := by
  rintro ws μ Q E ⟨ds, rfl, s, rfl, hs, hq⟩
  have h5 := hs.hi
  refine fld_d (lookD_hit _ _ _ _) ⟨hs.len, by omega, by omega, by simp only [List.length_singleton, Int.toNat_natCast]; omega, ?_⟩
  rw [show ((s.length : Int)).toNat = s.length from by simp, mulC]
  exact hq
def thenP (s : List Nat) (ds : List D) (Q : D → Prop) (E : Ex → Prop) : Prop := (∀ y, thenR s (List.replicate s.length 46) ds = .ok y → Q (.str y)) ∧ ∀ v, thenR s (List.replicate s.length 46) ds = .error v → E (xDeed v)
def sp_Board_then : DSp := spDat fun ws Q E => ∃ s ds, ws = [bd s, .tup ds] ∧ SzOk s ∧ (∀ d ∈ ds, pv d = true) ∧ thenP s ds Q E
theorem pu_Board_then : Rd sp_Board_then 4 (wb_Board_then sp_Board_idle sp_Board_need_deed sp_over) := by
  rintro ws μ Q E ⟨_, rfl, s, ds, rfl, hs, hd, h1, h2⟩
  refine prp_d (wFn_dat [bd s] rfl ⟨s, rfl, hs, ?_⟩)
  refine ⟨?_⟩
  refine wForL_ind (fun rest st => ∃ acc u3, st = ⟨[some (.d (bd s)), some (.d (.tup ds)), some (.d (.str acc)), u3], μ⟩ ∧ acc.length = s.length ∧ (∀ d ∈ rest, pv d = true) ∧ thenR s acc rest = thenR s (List.replicate s.length 46) ds) ?_ ?_ _ _ ⟨_, _, rfl, by simp, hd, rfl⟩
  · rintro st ⟨acc, u3, rfl, hl, -, e⟩
    exact h1 acc e.symm
  · rintro d rest st ⟨acc, u3, rfl, hl, hp, e⟩ K hK
    have h5 := hs.hi
    refine met_d (noB (by decide) _) ⟨rfl, wFn_dat [bd s, d] rfl ⟨s, d, rfl, hs, hp d (.head _), fun hb => ?_, fun hb => ?_⟩⟩
    · cases d <;> first | (cases hb; done) | skip
      rename_i x
      have ok := DeedOk.of hb
      refine ⟨rfl, wFn_dat [.str acc, .str x] rfl ⟨acc, x, rfl, by rw [hl, ok.len], by omega, ok.codes, ?_⟩⟩
      rw [thenR_deed ok] at e
      exact hK _ ⟨_, _, rfl, by rw [overL_len]; exact hl, fun d hd => hp d (.tail _ hd), e⟩
    · rw [thenR_bad hb] at e
      exact h2 d e.symm
theorem thenR_len {s : List Nat} : ∀ {ds : List D} {acc y : List Nat}, thenR s acc ds = .ok y → (acc.length = s.length → y.length = s.length) ∧ (codesOk acc = true → acc.length = s.length → codesOk y = true)
  | [], acc, y, h => by cases h; exact ⟨id, fun h _ => h⟩
  | d :: ds, acc, y, h => by
    cases hb : isDeedB s d with
    | false => rw [thenR_bad hb] at h; cases h
    | true =>
      cases d <;> first | (cases hb; done) | skip
      have ok := DeedOk.of hb
      rw [thenR_deed ok] at h
      obtain ⟨a, b⟩ := thenR_len h
      exact ⟨fun e => a (by rw [overL_len]; exact e), fun c e => b (over_codes (by rw [e, ok.len]) c ok.codes) (by rw [overL_len]; exact e)⟩
def sp_Board_done : DSp := spDat fun ws Q E => ∃ s v ds, ws = [bd s, v, .tup ds] ∧ SzOk s ∧ pv v = true ∧ ds.length ≤ 1000 ∧ (∀ d ∈ ds, pv d = true) ∧ (isStateB s v = false → E (xState v)) ∧
  (isStateB s v = true → (∀ y, thenR s (List.replicate s.length 46) ds = .ok y → ∃ x, v = .str x ∧ Q (.str (overL x y))) ∧ ∀ d, thenR s (List.replicate s.length 46) ds = .error d → E (xDeed d))
theorem pu_Board_done : Rd sp_Board_done 3 (wb_Board_done sp_Board_need_state sp_Board_then sp_over) := by
  rintro ws μ Q E ⟨_, rfl, s, v, ds, rfl, hs, hv, hn, hd, h1, h2⟩
  refine met_d (noB (by decide) _) ⟨rfl, wFn_dat [bd s, v] rfl ⟨s, v, rfl, hs, hv, fun hb => ?_, h1⟩⟩
  obtain ⟨h3, h4⟩ := h2 hb
  refine met_d (noB (by decide) _) ⟨ds, .inl rfl, [.d (bd s)], ds, rfl, rfl, by omega, wFn_dat [bd s, .tup ds] rfl ⟨s, ds, rfl, hs, hd, fun y hy => ?_, h4⟩⟩
  obtain ⟨x, rfl, hq⟩ := h3 y hy
  have ok := StateOk.of hb
  have h5 := hs.hi
  obtain ⟨a, b⟩ := thenR_len hy
  exact ⟨rfl, wFn_dat [.str x, .str y] rfl ⟨x, y, rfl, by rw [ok.len, a (by simp)], by have := ok.len; omega, b (DeedOk.idle (s := s)).codes (by simp), hq⟩⟩
def sp__law_behind : DSp := spDat fun ds Q _ => ∃ x y, ds = [.str x, .str y] ∧ x.length = y.length ∧ x.length ≤ 1000 ∧ codesOk y = true ∧ Q (.str (overL x y))
theorem pu__law_behind : Rd sp__law_behind 3 wb__law_behind := by
  rintro ws μ Q E ⟨ds, rfl, x, y, rfl, hl, hn, hy, hq⟩
  refine ⟨by omega, ⟨by omega, by omega⟩, ?_⟩
  rw [range_nat]
  refine lc_mapA (List.range x.length) _ (fun i => .str [if y.getD i 0 = 46 then x.getD i 0 else y.getD i 0]) μ (fun i hi K K2 k => ?_) (by simp; omega) ?_
  · have hi := List.mem_range.mp hi
    refine brT rfl ⟨by omega, ?_⟩
    rw [at_get (show i < y.length by omega)]
    refine Dl.eqT (code_at hy (by omega)) (by decide) ?_
    rw [sing_eq]
    refine br (fun c => ?_) fun c => ?_
    · refine ⟨by omega, ?_⟩
      rw [at_get hi]
      rw [if_pos (of_decide_eq_true c)] at k; exact k
    · refine ⟨by omega, ?_⟩
      rw [at_get (show i < y.length by omega)]
      rw [if_neg (of_decide_eq_false c)] at k; exact k
  · rw [over_map]
    exact join_signs (by rw [overL_len]; omega) hq
theorem ix_list {xs : List D} {i : Nat} {Q : D → Prop} (hi : i < xs.length) (h : ∀ d ∈ xs, Q d) : oIx (.lst xs) (.int i) Q := by
  show (match atI xs (i : Int) with
    | some d => Q d
    | none => False)
  obtain ⟨x, e, e2⟩ := atI_nat (xs := xs) (i := (i : Int)) (by omega) (by omega)
  rw [e]
  exact h x (List.mem_of_getElem? e2)
abbrev extM (m : List Nat) (found : List (List Nat)) (z : Nat) : List (List Nat) := found.flatMap fun r => (m ++ vals z).map fun c => r ++ [c]
abbrev rowsM (m s : List Nat) : List (List Nat) := s.foldl (extM m) [[]]
theorem extM_len (m : List Nat) (hm : m.length ≤ 1) (acc : List (List Nat)) (z : Nat) : (extM m acc z).length ≤ 4 * acc.length := by
  have v : (m ++ vals z).length ≤ 4 := by have := vals_len z; rw [List.length_append]; omega
  induction acc with
  | nil => exact Nat.le_refl _
  | cons a acc ih =>
    show ((m ++ vals z).map (fun c => a ++ [c]) ++ extM m acc z).length ≤ _
    rw [List.length_append, List.length_map, List.length_cons]
    omega
theorem rowsM_len (m : List Nat) (hm : m.length ≤ 1) : ∀ (s : List Nat) (acc : List (List Nat)), (s.foldl (extM m) acc).length ≤ 4 ^ s.length * acc.length
  | [], acc => by rw [List.length_nil, Nat.pow_zero, Nat.one_mul]; exact Nat.le_refl _
  | z :: s, acc => by
    refine Nat.le_trans (rowsM_len m hm s (extM m acc z)) ?_
    rw [List.length_cons, Nat.pow_succ, Nat.mul_assoc]
    exact Nat.mul_le_mul_left _ (extM_len m hm acc z)
theorem rowsM_at {m : List Nat} : ∀ {s : List Nat} {acc : List (List Nat)} {n : Nat}, (∀ a ∈ acc, a.length = n) → ∀ a ∈ s.foldl (extM m) acc, a.length = n + s.length
  | [], _, _, h, a, ha => h a ha
  | z :: s, acc, n, h, a, ha => by
    have := rowsM_at (m := m) (s := s) (acc := extM m acc z) (n := n + 1) (fun b hb => by
      obtain ⟨r, hr, hb⟩ := List.mem_flatMap.mp hb
      obtain ⟨c, _, rfl⟩ := List.mem_map.mp hb
      rw [List.length_append, h r hr]; rfl) a ha
    rw [this, List.length_cons]; omega
theorem rowsM_mem {m : List Nat} : ∀ (s : List Nat) (acc : List (List Nat)) (x : List Nat), x ∈ s.foldl (extM m) acc ↔ ∃ a ∈ acc, ∃ y : List Nat, x = a ++ y ∧ y.length = s.length ∧ ∀ p ∈ y.zip s, p.1 ∈ m ++ vals p.2
  | [], acc, x => by
    constructor
    · intro h; exact ⟨x, h, [], (List.append_nil x).symm, rfl, fun p hp => nomatch hp⟩
    · rintro ⟨a, ha, y, rfl, h, _⟩
      have : y = [] := List.length_eq_zero_iff.mp h
      rw [this, List.append_nil]; exact ha
  | z :: s, acc, x => by
    show x ∈ s.foldl (extM m) (extM m acc z) ↔ _
    rw [rowsM_mem s (extM m acc z) x]
    constructor
    · rintro ⟨a, ha, y, rfl, h1, h2⟩
      obtain ⟨r, hr, ha⟩ := List.mem_flatMap.mp ha
      obtain ⟨c, hc, rfl⟩ := List.mem_map.mp ha
      refine ⟨r, hr, c :: y, by simp, by simp [h1], fun p hp => ?_⟩
      rcases List.mem_cons.mp hp with rfl | hp
      · exact hc
      · exact h2 p hp
    · rintro ⟨a, ha, y, rfl, h1, h2⟩
      cases y with
      | nil => simp at h1
      | cons c y =>
        refine ⟨a ++ [c], List.mem_flatMap.mpr ⟨a, ha, List.mem_map.mpr ⟨c, h2 (c, z) List.mem_cons_self, rfl⟩⟩, y, by simp, by simpa using h1, fun p hp => h2 p (List.mem_cons_of_mem _ hp)⟩
theorem rowsM_cons {m s : List Nat} (hs : SzOk s) : ∃ y ys, rowsM m s = y :: ys := by
  have go : ∀ (s : List Nat) (acc : List (List Nat)), (∀ z ∈ s, z = 50 ∨ z = 51) → acc ≠ [] → s.foldl (extM m) acc ≠ [] := by
    intro s
    induction s with
    | nil => intro acc _ h; exact h
    | cons z s ih =>
      intro acc hz h
      refine ih (extM m acc z) (fun x hx => hz x (.tail _ hx)) ?_
      obtain ⟨a, t, rfl⟩ := List.exists_cons_of_ne_nil h
      have hv := vals_pos (hz z (.head _))
      obtain ⟨c, cs, ec⟩ := List.exists_cons_of_length_pos hv
      have e : ∃ d ds, m ++ vals z = d :: ds := by
        cases m with
        | nil => exact ⟨c, cs, ec⟩
        | cons d ds => exact ⟨d, ds ++ vals z, rfl⟩
      obtain ⟨d, ds, e⟩ := e
      show ((m ++ vals z).map (fun c => a ++ [c]) ++ extM m t z) ≠ []
      rw [e]
      exact List.cons_ne_nil _ _
  exact List.exists_cons_of_ne_nil (go s [[]] hs.all (List.cons_ne_nil _ _))
abbrev statesM (s : List Nat) : List (List Nat) := rowsM [] s
theorem statesM_ok {s x : List Nat} : x ∈ statesM s ↔ StateOk s x := by
  rw [rowsM_mem]
  constructor
  · rintro ⟨a, ha, y, rfl, h1, h2⟩
    obtain rfl := List.mem_singleton.mp ha
    exact ⟨h1, h2⟩
  · intro h
    exact ⟨[], List.mem_singleton.mpr rfl, x, rfl, h.len, h.all⟩
def sp_Board_rows : DSp := spDat fun ds Q _ => ∃ s m, ds = [bd s, .str m] ∧ SzOk s ∧ (m = [] ∨ m = [46]) ∧ Q (.lst ((rowsM m s).map .str))
theorem pu_Board_rows : Rd sp_Board_rows 6 wb_Board_rows := by
  rintro ws μ Q E ⟨ds, rfl, s, m, rfl, hs, hm, hq⟩
  have h5 := hs.hi
  have hm1 : m.length ≤ 1 := by rcases hm with rfl | rfl <;> decide
  have hmc : codesOk m = true := by rcases hm with rfl | rfl <;> decide
  refine ⟨by simp, fld_d (lookD_hit _ _ _ _) ⟨?_⟩⟩
  show wForL _ _ _ (s.map fun c => .str [c]) _
  refine wForL_ind (fun rest st => ∃ (pre rest' : List Nat) (u3 u4 u5 : Option W), rest = rest'.map (fun c => .str [c]) ∧ s = pre ++ rest' ∧ st = ⟨[some (.d (bd s)), some (.d (.str m)), some (.d (.lst ((pre.foldl (extM m) [[]]).map .str))), u3, u4, u5], μ⟩) ?_ ?_ _ _ ⟨[], s, none, none, none, rfl, rfl, rfl⟩
  · rintro st ⟨pre, rest', u3, u4, u5, e1, e2, rfl⟩
    obtain rfl : rest' = [] := List.map_eq_nil_iff.mp e1.symm
    rw [List.append_nil] at e2
    subst e2
    exact hq
  · rintro x rest st ⟨pre, rest', u3, u4, u5, e1, e2, rfl⟩ K hK
    cases rest' with
    | nil => cases e1
    | cons z rest' =>
      simp only [List.map_cons, List.cons.injEq] at e1
      obtain ⟨rfl, e3⟩ := e1
      have hz := hs.all z (by rw [e2]; simp)
      have pl := congrArg List.length e2
      rw [List.length_append, List.length_cons] at pl
      have fl : (pre.foldl (extM m) [[]]).length ≤ 4 ^ 5 * 1 := Nat.le_trans (rowsM_len m hm1 pre [[]]) (Nat.mul_le_mul_right _ (Nat.pow_le_pow_right (by decide) (by omega)))
      have fl : (pre.foldl (extM m) [[]]).length ≤ 1024 := fl
      have e4 : s = (pre ++ [z]) ++ rest' := by rw [e2]; simp
      have ef : (pre ++ [z]).foldl (extM m) [[]] = extM m (pre.foldl (extM m) [[]]) z := by rw [List.foldl_append]; rfl
      have fa : ∀ a ∈ pre.foldl (extM m) [[]], a.length ≤ 5 := fun a ha => by
        have := rowsM_at (m := m) (n := 0) (fun b hb => by rw [List.mem_singleton.mp hb]; rfl) a ha
        omega
      generalize hF : pre.foldl (extM m) [[]] = F at fl ef fa
      have vl := vals_len z
      have cl : (m ++ vals z).length ≤ 4 := by rw [List.length_append]; omega
      show lc2P _ _ _ _ _ _ _ _ _ (F.map D.str) [] μ
      refine lc2_mapA F (m ++ vals z) D.str (fun c => .str [c]) (fun a c => .str (a ++ [c])) (fun a => [some (.d (bd s)), some (.d (.str m)), some (.d (.lst (F.map .str))), some (.d (.str [z])), some (.d (.str a)), none]) μ (fun a ha Q' acc N h => ?_) (fun a ha c hc K1 K2 k => ?_) ?_ ?_
      · refine brT rfl ⟨_, intD (by omega), by simp, by decide, ?_⟩
        rw [cut_vals hz]
        exact ⟨by rw [← List.length_append]; omega, h⟩
      · exact brT rfl ⟨by have := fa a ha; simp; omega, k⟩
      · exact Nat.le_trans (Nat.mul_le_mul fl cl) (by decide)
      · refine hK _ ⟨pre ++ [z], rest', some (.d (.str [z])), u4, u5, e3, e4, ?_⟩
        rw [ef]
        have e : (extM m F z).map D.str = F.flatMap fun a => (m ++ vals z).map fun c => D.str (a ++ [c]) := by
          show (F.flatMap _).map _ = _
          rw [List.map_flatMap]
          congr 1
          funext a
          rw [List.map_map]; rfl
        rw [e]
        rfl
abbrev RdG (sp : DSp) (m : Nat) (we : DE) : Prop := ∀ ws μ Q E, sp ws μ Q E → we ⟨startD m ws, μ⟩ (fun w st => Q w st.μ) (fun x st => E x st.μ)
def sp_Board_all_states : DSp := spDat fun ds Q _ => ∃ s, ds = [bd s] ∧ SzOk s ∧ Q (.lst ((statesM s).map .str))
theorem pu_Board_all_states : RdG sp_Board_all_states 1 (wb_Board_all_states sp_Board_rows) := by
  rintro ws μ Q E ⟨ds, rfl, s, rfl, hs, hq⟩
  show wMeth _ _ _ _ _ _ _ _ _
  exact met_d (noB (by decide) _) ⟨rfl, wFn_dat [bd s, .str []] rfl ⟨s, [], rfl, hs, .inl rfl, hq⟩⟩
def sp_law : DSp := fun ws μ Q _ => ∃ xs : List Int, ws = [.scr xs] ∧ μ = [] ∧ ∀ μ', Q (.d (.bl true)) μ'
abbrev L1 := wl1 sp_Board___init__ sp_Board_all_states sp_Board_done sp_Board_idle sp_Board_then sp_law_any sp__law_behind sp_law_cells sp__law_deed sp_law_draw (sp_like 6) sp__law_sizes
abbrev L2 := wl2 sp_Board___init__ sp_Board_all_states sp_Board_done sp_Board_idle sp_Board_then sp_law_any sp__law_behind sp_law_cells sp__law_deed sp_law_draw (sp_like 6) sp__law_sizes
abbrev L3 := wl3 sp_Board___init__ sp_Board_all_states sp_Board_done sp_Board_idle sp_Board_then sp_law_any sp__law_behind sp_law_cells sp__law_deed sp_law_draw (sp_like 6) sp__law_sizes
abbrev L4 := wl4 sp_Board___init__ sp_Board_all_states sp_Board_done sp_Board_idle sp_Board_then sp_law_any sp__law_behind sp_law_cells sp__law_deed sp_law_draw (sp_like 6) sp__law_sizes
abbrev L5 := wl5 sp_Board___init__ sp_Board_all_states sp_Board_done sp_Board_idle sp_Board_then sp_law_any sp__law_behind sp_law_cells sp__law_deed sp_law_draw (sp_like 6) sp__law_sizes
abbrev L6 := wl6 sp_Board___init__ sp_Board_all_states sp_Board_done sp_Board_idle sp_Board_then sp_law_any sp__law_behind sp_law_cells sp__law_deed sp_law_draw (sp_like 6) sp__law_sizes
abbrev L7 := wl7 sp_Board___init__ sp_Board_all_states sp_Board_done sp_Board_idle sp_Board_then sp_law_any sp__law_behind sp_law_cells sp__law_deed sp_law_draw (sp_like 6) sp__law_sizes
abbrev L8 := wl8 sp_Board___init__ sp_Board_all_states sp_Board_done sp_Board_idle sp_Board_then sp_law_any sp__law_behind sp_law_cells sp__law_deed sp_law_draw (sp_like 6) sp__law_sizes
abbrev L9 := wl9 sp_Board___init__ sp_Board_all_states sp_Board_done sp_Board_idle sp_Board_then sp_law_any sp__law_behind sp_law_cells sp__law_deed sp_law_draw (sp_like 6) sp__law_sizes
abbrev L10 := wl10 sp_Board___init__ sp_Board_all_states sp_Board_done sp_Board_idle sp_Board_then sp_law_any sp__law_behind sp_law_cells sp__law_deed sp_law_draw (sp_like 6) sp__law_sizes
abbrev L11 := wl11 sp_Board___init__ sp_Board_all_states sp_Board_done sp_Board_idle sp_Board_then sp_law_any sp__law_behind sp_law_cells sp__law_deed sp_law_draw (sp_like 6) sp__law_sizes
abbrev L12 := wl12 sp_Board___init__ sp_Board_all_states sp_Board_done sp_Board_idle sp_Board_then sp_law_any sp__law_behind sp_law_cells sp__law_deed sp_law_draw (sp_like 6) sp__law_sizes
abbrev L13 := wl13 sp_Board___init__ sp_Board_all_states sp_Board_done sp_Board_idle sp_Board_then sp_law_any sp__law_behind sp_law_cells sp__law_deed sp_law_draw (sp_like 6) sp__law_sizes
abbrev LW := wb_law sp_Board___init__ sp_Board_all_states sp_Board_done sp_Board_idle sp_Board_then sp_law_any sp__law_behind sp_law_cells sp__law_deed sp_law_draw (sp_like 6) sp__law_sizes
abbrev dd (d : D) : Option W := some (.d d)
abbrev l0 : Option W := some (.loc 0)
abbrev sc (xs : List Int) : Option W := some (.scr xs)
abbrev idl (s : List Nat) : List Nat := List.replicate s.length 46
theorem plain_str {n : Nat} {x : List Nat} (h : codesOk x = true) : plainD (n + 1) (.str x) = true := h
theorem plainL_of {n : Nat} : ∀ {xs : List D}, (∀ x ∈ xs, plainD n x = true) → plainL n xs = true
  | [], _ => by unfold plainL; rfl
  | x :: xs, h => by
    unfold plainL
    rw [h x List.mem_cons_self, plainL_of fun y hy => h y (List.mem_cons_of_mem _ hy)]; rfl
theorem plain_lst {n : Nat} {xs : List D} (hl : xs.length ≤ 16777216) (h : ∀ x ∈ xs, plainD n x = true) : plainD (n + 1) (.lst xs) = true := by
  unfold plainD
  rw [plainL_of h, decide_eq_true hl]; rfl
theorem nofalse {A : Prop} {b : Bool} (h : b = true) (c : b = false) : A := by rw [h] at c; cases c
theorem neNil {n : Nat} {d : D} {ds : List D} {Q : D → Prop} (h : plainD (n + 1) (.lst (d :: ds)) = true) (q : Q (.bl true)) (hn : n + 1 ≤ 64 := by decide) : oNe (.lst (d :: ds)) (.lst []) Q :=
  neP (okB_plain h hn) (okB_plain (n := 2) (by decide) (by decide)) (by
    have h2 := h
    unfold plainD at h2
    rw [Bool.and_eq_true] at h2
    rw [eqD_nil (n := n) h2.2]; exact q)
theorem take_one {x : List Nat} {i : Nat} (h : i < x.length) : x.take i ++ [x.getD i 0] = x.take (i + 1) := by
  rw [List.take_add_one, List.getElem?_eq_getElem h]
  simp [h]
theorem then_ok {s : List Nat} {xs : List (List Nat)} {Q : D → Prop} {E : Ex → Prop} (hs : SzOk s) (h : ∀ x ∈ xs, DeedOk s x) (q : Q (.str (xs.foldl overL (idl s)))) : ∃ s' ds', [bd s, D.tup (xs.map D.str)] = [bd s', .tup ds'] ∧ SzOk s' ∧ (∀ d ∈ ds', pv d = true) ∧ thenP s' ds' Q E :=
  ⟨s, _, rfl, hs, fun d hd => by
    obtain ⟨x, hx, rfl⟩ := List.mem_map.mp hd
    exact (h x hx).pv hs, fun y hy => by
    rw [thenR_deeds h] at hy
    cases hy; exact q, fun v hv => by
    rw [thenR_deeds h] at hv
    cases hv⟩
theorem fold_app {s : List Nat} : ∀ {ys : List (List Nat)} {a b : List Nat}, DeedOk s a → DeedOk s b → (∀ y ∈ ys, DeedOk s y) → ys.foldl overL (overL a b) = overL a (ys.foldl overL b)
  | [], _, _, _, _, _ => rfl
  | y :: ys, a, b, ha, hb, h => by
    show ys.foldl overL (overL (overL a b) y) = overL a (ys.foldl overL (overL b y))
    have hy := h y (.head _)
    rw [over_assoc (by rw [hb.len, ha.len]) (by rw [hy.len, ha.len]), fold_app ha (hb.over hy) fun z hz => h z (.tail _ hz)]
theorem two {s a b : List Nat} (ha : DeedOk s a) : [a, b].foldl overL (idl s) = overL a b := by
  show overL (overL (idl s) a) b = _
  rw [idle_over ha.len]
theorem fold_two {s : List Nat} {xs ys : List (List Nat)} (hx : ∀ x ∈ xs, DeedOk s x) (hy : ∀ y ∈ ys, DeedOk s y) : overL (xs.foldl overL (idl s)) (ys.foldl overL (idl s)) = (xs ++ ys).foldl overL (idl s) := by
  have d := fold_deed (DeedOk.idle (s := s)) hx
  rw [List.foldl_append, ← fold_app d DeedOk.idle hy]
  congr 1
  have := overL_idle (x := xs.foldl overL (idl s))
  rw [d.len] at this
  exact this
def lastC (i : Nat) : List (List Nat) → Nat → Nat
  | [], c => c
  | x :: xs, c => lastC i xs (if x.getD i 0 = 46 then c else x.getD i 0)
theorem fold_cell {s : List Nat} {i : Nat} (hi : i < s.length) : ∀ {xs : List (List Nat)} {a : List Nat}, a.length = s.length → (∀ x ∈ xs, DeedOk s x) → (xs.foldl overL a).getD i 0 = lastC i xs (a.getD i 0)
  | [], _, _, _ => rfl
  | x :: xs, a, ha, h => by
    show (xs.foldl overL (overL a x)).getD i 0 = lastC i xs (if x.getD i 0 = 46 then a.getD i 0 else x.getD i 0)
    rw [fold_cell hi (by rw [overL_len]; exact ha) fun y hy => h y (.tail _ hy), overL_at (by omega)]
abbrev lateC (i : Nat) (xs : List (List Nat)) : List Nat := (xs.map fun x => x.getD i 0).filter fun c => decide (c ≠ 46)
theorem last_late (i : Nat) : ∀ (xs : List (List Nat)) (c : Nat), lastC i xs c = (lateC i xs).getLastD c
  | [], _ => rfl
  | x :: xs, c => by
    show lastC i xs (if x.getD i 0 = 46 then c else x.getD i 0) = _
    rw [last_late i xs]
    show _ = ((x.getD i 0 :: xs.map fun x => x.getD i 0).filter fun c => decide (c ≠ 46)).getLastD c
    by_cases e : x.getD i 0 = 46
    · rw [if_pos e, List.filter_cons_of_neg (by simpa using e)]
    · rw [if_neg e, List.filter_cons_of_pos (by simpa using e), List.getLastD_cons]
theorem last_pick (l : List Nat) : ∃ k : Nat, k < (l ++ [46]).length ∧ (k : Int) = (if l = [] then 0 else (l.length : Int) - 1) ∧ (l ++ [46])[k]? = some (l.getLastD 46) := by
  cases l with
  | nil => exact ⟨0, by decide, rfl, rfl⟩
  | cons a t =>
    refine ⟨t.length, by simp; omega, by simp, ?_⟩
    rw [List.getElem?_append_left (by simp), List.getLastD_eq_getLast?, List.getLast?_eq_getElem?]
    simp
theorem last_mem {i c : Nat} : ∀ {xs : List (List Nat)} {x : List Nat}, x ∈ xs → x.getD i 0 ≠ 46 → lastC i xs c ≠ 46
  | [], _, h, _ => nomatch h
  | y :: xs, x, h, hx => by
    have keep : ∀ (xs : List (List Nat)) (c : Nat), c ≠ 46 → lastC i xs c ≠ 46 := by
      intro xs
      induction xs with
      | nil => intro c h; exact h
      | cons z xs ih =>
        intro c h
        refine ih _ ?_
        by_cases e : z.getD i 0 = 46
        · rw [if_pos e]; exact h
        · rw [if_neg e]; exact e
    rcases List.mem_cons.mp h with rfl | h
    · show lastC i xs (if x.getD i 0 = 46 then c else x.getD i 0) ≠ 46
      rw [if_neg hx]
      exact keep xs _ hx
    · show lastC i xs (if y.getD i 0 = 46 then c else y.getD i 0) ≠ 46
      exact last_mem (i := i) h hx
theorem over_self {x : List Nat} : overL x x = x := ext_at (overL_len _ _) fun i hi => by
  rw [overL_len] at hi
  rw [overL_at hi]
  split <;> rfl
theorem again_whole {s z : List Nat} {ds : List (List Nat)} (h : ∀ x ∈ ds, DeedOk s x) (hz : z ∈ ds) : overL z (ds.foldl overL (idl s)) = ds.foldl overL (idl s) := by
  have d := fold_deed (DeedOk.idle (s := s)) h
  have hz' := h z hz
  refine ext_at (by rw [overL_len, hz'.len, d.len]) fun i hi => ?_
  rw [overL_len] at hi
  rw [overL_at hi]
  by_cases e : (ds.foldl overL (idl s)).getD i 0 = 46
  · rw [if_pos e, e]
    have hi' : i < s.length := by rw [← hz'.len]; exact hi
    rw [fold_cell hi' (by simp) h] at e
    by_cases q : z.getD i 0 = 46
    · exact q
    · exact absurd e (last_mem hz q)
  · rw [if_neg e]
theorem again_left {s z l : List Nat} (hz : DeedOk s z) (hl : DeedOk s l) : overL (overL z l) z = overL l z := ext_at (by simp only [overL_len]; rw [hz.len, hl.len]) fun i hi => by
  simp only [overL_len] at hi
  rw [overL_at (by rw [overL_len]; exact hi), overL_at hi, overL_at (by rw [hl.len, ← hz.len]; exact hi)]
  by_cases e : z.getD i 0 = 46
  · rw [if_pos e, if_pos e, e]
    split
    · rename_i q; exact q.symm
    · rfl
  · rw [if_neg e, if_neg e]
section
variable {xs : List Int} {u2 u3 u4 u5 u6 u7 u8 u9 u10 u11 u12 u13 u14 u15 u16 : Option W} {b : O} {r : List O} {DD : DEnds} {s l q z : List Nat} {ds : List (List Nat)}
theorem l1 (ok : BagOk b) (h : ∀ s b', SzOk s → s.length ≤ 3 → BagOk b' → DD.nx ⟨[sc xs, l0, u2, dd (.str s), u4, u5, u6, u7, u8, u9, u10, u11, u12, u13, u14, u15, u16], b' :: r⟩) : L1 DD ⟨[sc xs, l0, u2, u3, u4, u5, u6, u7, u8, u9, u10, u11, u12, u13, u14, u15, u16], b :: r⟩ :=
  ⟨rfl, wFn_bag 0 [.int 8] b rfl rfl ok ⟨8, rfl, .inr rfl, fun s hs hl b' ok' => h s b' hs hl ok'⟩⟩
structure RowK (s : List Nat) (ds : List (List Nat)) : Prop where
  hs : SzOk s
  dk : ∀ x ∈ ds, DeedOk s x
  lo : 2 ≤ ds.length
  hi : ds.length ≤ 6
theorem l2 (hs : SzOk s) (ok : BagOk b) (h : ∀ ds b', RowK s ds → BagOk b' → DD.nx ⟨[sc xs, l0, u2, dd (.str s), dd (bd s), dd (.lst (ds.map D.str)), u6, u7, u8, u9, u10, u11, u12, u13, u14, u15, u16], b' :: r⟩) : L2 DD ⟨[sc xs, l0, u2, dd (.str s), u4, u5, u6, u7, u8, u9, u10, u11, u12, u13, u14, u15, u16], b :: r⟩ := by
  refine ⟨rfl, s, rfl, rfl, hs, rfl, _, _, rfl, ?_⟩
  refine ⟨rfl, wFn_bag 0 [.int 5] b rfl rfl ok ⟨5, rfl, by decide, by decide, fun d d0 d1 b1 ok1 => ?_⟩⟩
  obtain ⟨k, rfl⟩ := Int.eq_ofNat_of_zero_le d0
  have hk : k < 5 := by omega
  refine ⟨by omega, ?_⟩
  have e : (2 : Int) + (k : Int) = ((2 + k : Nat) : Int) := by omega
  show lcP _ _ _ _ _ (rangeD 0 ((2 : Int) + (k : Int))) [] _
  rw [e, range_nat]
  refine lc_bagA 0 (List.range (2 + k)) (fun (k : Nat) => D.int k) D.str (fun _ x => DeedOk s x) b1 rfl ok1 (fun i hi μ' b' hb' ok' K K2 kk => ?_) (by simp; omega) fun ys b' hl hall ok' => ?_
  · exact brT rfl ⟨rfl, wFn_bag 0 [.str s] b' rfl hb' ok' ⟨s, rfl, hs, fun x hx b2 ok2 => kk x b2 hx ok2⟩⟩
  · rw [List.length_range] at hl
    refine h ys b' ⟨hs, fun x hx => ?_, by omega, by omega⟩ ok'
    obtain ⟨i, hi, rfl⟩ := List.mem_iff_getElem.mp hx
    have hi2 : i < ((List.range (2 + k)).zip ys).length := by rw [List.length_zip, List.length_range]; omega
    have := hall _ (List.getElem_mem hi2)
    simpa using this
theorem l3 (hs : SzOk s) (h : DD.nx ⟨[sc xs, l0, u2, dd (.str s), dd (bd s), dd (.lst (ds.map D.str)), dd (.str (idl s)), dd (.str []), u8, u9, u10, u11, u12, u13, u14, u15, u16], r⟩) : L3 DD ⟨[sc xs, l0, u2, dd (.str s), dd (bd s), dd (.lst (ds.map D.str)), u6, u7, u8, u9, u10, u11, u12, u13, u14, u15, u16], r⟩ :=
  prp_d (wFn_dat [bd s] rfl ⟨s, rfl, hs, h⟩)
theorem l4 (R : RowK s ds) (h : ∀ u8, DD.nx ⟨[sc xs, l0, u2, dd (.str s), dd (bd s), dd (.lst (ds.map D.str)), dd (.str (ds.foldl overL (idl s))), dd (.str []), u8, u9, u10, u11, u12, u13, u14, u15, u16], r⟩) : L4 DD ⟨[sc xs, l0, u2, dd (.str s), dd (bd s), dd (.lst (ds.map D.str)), dd (.str (idl s)), dd (.str []), u8, u9, u10, u11, u12, u13, u14, u15, u16], r⟩ := by
  refine ⟨?_⟩
  refine wForL_ind (fun rest st => ∃ (rem : List (List Nat)) (acc : List Nat) (u8 : Option W), rest = rem.map D.str ∧ (∀ x ∈ rem, DeedOk s x) ∧ DeedOk s acc ∧ rem.foldl overL acc = ds.foldl overL (idl s) ∧ st = ⟨[sc xs, l0, u2, dd (.str s), dd (bd s), dd (.lst (ds.map D.str)), dd (.str acc), dd (.str []), u8, u9, u10, u11, u12, u13, u14, u15, u16], r⟩) ?_ ?_ _ _ ⟨ds, idl s, u8, rfl, R.dk, DeedOk.idle, rfl, rfl⟩
  · rintro st ⟨rem, acc, u8, e1, -, -, e2, rfl⟩
    cases rem with
    | cons _ _ => cases e1
    | nil =>
      have e2 : acc = _ := e2
      subst e2
      exact h u8
  · rintro d rest st ⟨rem, acc, u8, e1, hm, ha, e2, rfl⟩ K hK
    cases rem with
    | nil => cases e1
    | cons x rem =>
      simp only [List.map_cons, List.cons.injEq] at e1
      obtain ⟨rfl, e3⟩ := e1
      have hx := hm x (.head _)
      refine met_d (noB (by decide) _) ⟨[.d (bd s)], [.str acc, .str x], rfl, rfl, by simp, wFn_dat [bd s, .tup [.str acc, .str x]] rfl (then_ok (xs := [acc, x]) R.hs (List.forall_mem_cons.mpr ⟨ha, List.forall_mem_cons.mpr ⟨hx, fun _ h => nomatch h⟩⟩) ?_)⟩
      rw [two ha]
      exact hK _ ⟨rem, _, _, e3, fun y hy => hm y (.tail _ hy), ha.over hx, e2, rfl⟩
theorem l5 (R : RowK s ds) (h : ∀ u8 u9 u10, DD.nx ⟨[sc xs, l0, u2, dd (.str s), dd (bd s), dd (.lst (ds.map D.str)), dd (.str (ds.foldl overL (idl s))), dd (.str (ds.foldl overL (idl s))), u8, u9, u10, u11, u12, u13, u14, u15, u16], r⟩) : L5 DD ⟨[sc xs, l0, u2, dd (.str s), dd (bd s), dd (.lst (ds.map D.str)), dd (.str (ds.foldl overL (idl s))), dd (.str []), u8, u9, u10, u11, u12, u13, u14, u15, u16], r⟩ := by
  have hs := R.hs
  have h5 := hs.hi
  have hl := R.hi
  have dw := fold_deed (DeedOk.idle (s := s)) R.dk
  generalize ew : ds.foldl overL (idl s) = w at dw
  rw [ew] at h
  refine ⟨by have := hs.len; omega, ⟨by omega, by omega⟩, ⟨?_⟩⟩
  show wForL _ _ _ (rangeD 0 (s.length : Int)) _
  rw [range_nat]
  refine wForL_ind (fun rest st => ∃ (i : Nat) (u8 u9 u10 : Option W), i ≤ s.length ∧ rest = ((List.range s.length).drop i).map (fun (k : Nat) => D.int k) ∧ st = ⟨[sc xs, l0, u2, dd (.str s), dd (bd s), dd (.lst (ds.map D.str)), dd (.str w), dd (.str (w.take i)), u8, u9, u10, u11, u12, u13, u14, u15, u16], r⟩) ?_ ?_ _ _ ⟨0, u8, u9, u10, Nat.zero_le _, rfl, rfl⟩
  · rintro st ⟨i, u8, u9, u10, hi, e1, rfl⟩
    have : ((List.range s.length).drop i) = [] := List.map_eq_nil_iff.mp e1.symm
    rw [List.drop_eq_nil_iff, List.length_range] at this
    rw [show i = s.length by omega, ← dw.len, List.take_length]
    exact h u8 u9 u10
  · rintro d rest st ⟨i, u8, u9, u10, hi, e1, rfl⟩ K hK
    by_cases hlt : i < s.length
    · rw [List.drop_eq_getElem_cons (by simpa using hlt), List.getElem_range, List.map_cons, List.cons.injEq] at e1
      obtain ⟨rfl, e3⟩ := e1
      refine lc_filterA ds D.str (fun x => decide (x.getD i 0 ≠ 46)) (fun x => .str [x.getD i 0]) r (fun x hx K1 K2 k k2 => ?_) (by omega) ?_
      · have dx := R.dk x hx
        have dl := dx.len
        have hx5 : i < x.length := by rw [dx.len]; exact hlt
        refine ⟨by omega, ?_⟩
        rw [at_get hx5]
        refine Dl.neT (code_at dx.codes hx5) (by decide) ?_
        rw [sing_eq]
        refine br (fun c => ?_) fun c => ?_
        · refine ⟨by omega, ?_⟩
          rw [at_get hx5]
          exact k (by simpa using c)
        · exact k2 (by simpa using c)
      · have el : (ds.filter fun x => decide (x.getD i 0 ≠ 46)).map (fun x => D.str [x.getD i 0]) = (lateC i ds).map fun c => .str [c] := by
          show _ = ((ds.map fun x => x.getD i 0).filter fun c => decide (c ≠ 46)).map _
          rw [List.filter_map, List.map_map]; rfl
        rw [el]
        have hcode : ∀ c ∈ lateC i ds, c = 46 ∨ c = 48 ∨ c = 49 ∨ c = 50 := fun c hc => by
          obtain ⟨x, hx, rfl⟩ := List.mem_map.mp (List.mem_filter.mp hc).1
          have dx := R.dk x hx
          exact dx.code (by
            have hx5 : i < x.length := by rw [dx.len]; exact hlt
            rw [show x.getD i 0 = x[i] by simp [hx5]]
            exact List.getElem_mem _)
        have hll : (lateC i ds).length ≤ 6 := Nat.le_trans (List.length_filter_le _ _) (by rw [List.length_map]; exact hl)
        have ec : (w.take i) ++ [(lateC i ds).getLastD 46] = w.take (i + 1) := by
          rw [← take_one (x := w) (i := i) (by rw [dw.len]; exact hlt), ← ew, fold_cell hlt (by simp) R.dk, rep_at hlt, last_late]
        obtain ⟨k, hk, ek, eg⟩ := last_pick (lateC i ds)
        generalize hL : lateC i ds = Lt at hcode hll ec hk ek eg
        have pl : plainD 2 (.lst (Lt.map fun c => .str [c])) = true := plain_lst (by rw [List.length_map]; omega) fun d hd => by
          obtain ⟨c, hc, rfl⟩ := List.mem_map.mp hd
          exact plain_str (by rcases hcode c hc with rfl | rfl | rfl | rfl <;> decide)
        have fin : ∀ (k : Nat), k < (Lt ++ [46]).length → (Lt ++ [46])[k]? = some (Lt.getLastD 46) → oIx (.lst ((Lt.map fun c => D.str [c]) ++ [.str [46]])) (.int k) fun d => oAdd (.str (w.take i)) d fun z => K ⟨[sc xs, l0, u2, dd (.str s), dd (bd s), dd (.lst (ds.map D.str)), dd (.str w), some (.d z), u8, dd (.int i), dd (.lst (Lt.map fun c => .str [c])), u11, u12, u13, u14, u15, u16], r⟩ := fun k hk eg => by
          show (match atI ((Lt.map fun c => D.str [c]) ++ [.str [46]]) (k : Int) with
            | some d => _
            | none => False)
          have ea : atI ((Lt.map fun c => D.str [c]) ++ [.str [46]]) (k : Int) = some (.str [Lt.getLastD 46]) := atI_of (by
            rw [show (Lt.map fun c => D.str [c]) ++ [D.str [46]] = (Lt ++ [46]).map fun c => .str [c] by rw [List.map_append]; rfl, List.getElem?_map, eg]; rfl)
          rw [ea]
          refine ⟨by have := dw.len; have := List.length_take_le i w; simp; omega, ?_⟩
          rw [ec]
          exact hK _ ⟨i + 1, _, _, _, hlt, e3, rfl⟩
        refine ⟨by simp, by rw [List.length_map]; simp; omega, ?_⟩
        cases Lt with
        | nil =>
          refine ⟨by simp, neSelf (n := 2) pl (brF rfl ?_)⟩
          exact fin 0 (by decide) rfl
        | cons c Lt =>
          refine ⟨by simp, neNil (n := 1) pl ?_⟩
          refine brT rfl ?_
          have e0 : (((((c :: Lt).map fun c => D.str [c]).length : Nat) : Int) - 1) = ((k : Nat) : Int) := by
            rw [ek, if_neg (List.cons_ne_nil _ _), List.length_map]
          show oIx (.lst (((c :: Lt).map fun c => D.str [c]) ++ [.str [46]])) (.int ((((c :: Lt).map fun c => D.str [c]).length : Int) - 1)) _
          rw [e0]
          exact fin k hk eg
    · have : ((List.range s.length).drop i) = [] := List.drop_eq_nil_of_le (by simp; omega)
      rw [this] at e1; cases e1
theorem l6 (R : RowK s ds) (ok : BagOk b) (h : ∀ (k : Nat) b', k < ds.length → BagOk b' → DD.nx ⟨[sc xs, l0, u2, dd (.str s), dd (bd s), dd (.lst (ds.map D.str)), dd (.str (ds.foldl overL (idl s))), dd (.str (ds.foldl overL (idl s))), u8, u9, u10, dd (.int k), u12, u13, u14, u15, u16], b' :: r⟩) : L6 DD ⟨[sc xs, l0, u2, dd (.str s), dd (bd s), dd (.lst (ds.map D.str)), dd (.str (ds.foldl overL (idl s))), dd (.str (ds.foldl overL (idl s))), u8, u9, u10, u11, u12, u13, u14, u15, u16], b :: r⟩ := by
  have lo := R.lo
  have hi := R.hi
  refine ⟨rfl, wFn_bag 0 [.int ((ds.map D.str).length : Nat)] b rfl rfl ok ⟨_, rfl, by rw [List.length_map]; omega, by rw [List.length_map]; omega, fun d d0 d1 b' ok' => ?_⟩⟩
  obtain ⟨k, rfl⟩ := Int.eq_ofNat_of_zero_le d0
  exact h k b' (by rw [List.length_map] at d1; omega) ok'
theorem l7 (hs : SzOk s) (h : DD.nx ⟨[sc xs, l0, u2, dd (.str s), dd (bd s), dd (.lst (ds.map D.str)), dd (.str (ds.foldl overL (idl s))), dd (.str (ds.foldl overL (idl s))), u8, u9, u10, u11, dd (.str (idl s)), dd (.str (idl s)), u14, u15, u16], r⟩) : L7 DD ⟨[sc xs, l0, u2, dd (.str s), dd (bd s), dd (.lst (ds.map D.str)), dd (.str (ds.foldl overL (idl s))), dd (.str (ds.foldl overL (idl s))), u8, u9, u10, u11, u12, u13, u14, u15, u16], r⟩ :=
  prp_d (wFn_dat [bd s] rfl ⟨s, rfl, hs, prp_d (wFn_dat [bd s] rfl ⟨s, rfl, hs, h⟩)⟩)
theorem l8 {k : Nat} (R : RowK s ds) (hk : k < ds.length) (h : ∀ u8, DD.nx ⟨[sc xs, l0, u2, dd (.str s), dd (bd s), dd (.lst (ds.map D.str)), dd (.str (ds.foldl overL (idl s))), dd (.str (ds.foldl overL (idl s))), u8, u9, u10, dd (.int k), dd (.str ((ds.take k).foldl overL (idl s))), dd (.str (idl s)), u14, u15, u16], r⟩) : L8 DD ⟨[sc xs, l0, u2, dd (.str s), dd (bd s), dd (.lst (ds.map D.str)), dd (.str (ds.foldl overL (idl s))), dd (.str (ds.foldl overL (idl s))), u8, u9, u10, dd (.int k), dd (.str (idl s)), dd (.str (idl s)), u14, u15, u16], r⟩ := by
  refine ⟨?_⟩
  show wForL _ _ _ (Dl.cutD (ds.map D.str) none (some (k : Int))) _
  rw [cutD_to, ← List.map_take]
  have hm0 : ∀ x ∈ ds.take k, DeedOk s x := fun x hx => R.dk x (List.mem_of_mem_take hx)
  refine wForL_ind (fun rest st => ∃ (rem : List (List Nat)) (acc : List Nat) (u8 : Option W), rest = rem.map D.str ∧ (∀ x ∈ rem, DeedOk s x) ∧ DeedOk s acc ∧ rem.foldl overL acc = (ds.take k).foldl overL (idl s) ∧ st = ⟨[sc xs, l0, u2, dd (.str s), dd (bd s), dd (.lst (ds.map D.str)), dd (.str (ds.foldl overL (idl s))), dd (.str (ds.foldl overL (idl s))), u8, u9, u10, dd (.int k), dd (.str acc), dd (.str (idl s)), u14, u15, u16], r⟩) ?_ ?_ _ _ ⟨ds.take k, idl s, u8, rfl, hm0, DeedOk.idle, rfl, rfl⟩
  · rintro st ⟨rem, acc, u8, e1, -, -, e2, rfl⟩
    cases rem with
    | cons _ _ => cases e1
    | nil =>
      have e2 : acc = _ := e2
      subst e2
      exact h u8
  · rintro d rest st ⟨rem, acc, u8, e1, hm, ha, e2, rfl⟩ K hK
    cases rem with
    | nil => cases e1
    | cons x rem =>
      simp only [List.map_cons, List.cons.injEq] at e1
      obtain ⟨rfl, e3⟩ := e1
      have hx := hm x (.head _)
      refine met_d (noB (by decide) _) ⟨[.d (bd s)], [.str acc, .str x], rfl, rfl, by simp, wFn_dat [bd s, .tup [.str acc, .str x]] rfl (then_ok (xs := [acc, x]) R.hs (List.forall_mem_cons.mpr ⟨ha, List.forall_mem_cons.mpr ⟨hx, fun _ h => nomatch h⟩⟩) ?_)⟩
      rw [two ha]
      exact hK _ ⟨rem, _, _, e3, fun y hy => hm y (.tail _ hy), ha.over hx, e2, rfl⟩
theorem l9 {k : Nat} (R : RowK s ds) (hk : k < ds.length) (h : ∀ u8, DD.nx ⟨[sc xs, l0, u2, dd (.str s), dd (bd s), dd (.lst (ds.map D.str)), dd (.str (ds.foldl overL (idl s))), dd (.str (ds.foldl overL (idl s))), u8, u9, u10, dd (.int k), dd (.str l), dd (.str ((ds.drop k).foldl overL (idl s))), u14, u15, u16], r⟩) : L9 DD ⟨[sc xs, l0, u2, dd (.str s), dd (bd s), dd (.lst (ds.map D.str)), dd (.str (ds.foldl overL (idl s))), dd (.str (ds.foldl overL (idl s))), u8, u9, u10, dd (.int k), dd (.str l), dd (.str (idl s)), u14, u15, u16], r⟩ := by
  refine ⟨?_⟩
  show wForL _ _ _ (Dl.cutD (ds.map D.str) (some (k : Int)) none) _
  rw [cutD_from, ← List.map_drop]
  have hm0 : ∀ x ∈ ds.drop k, DeedOk s x := fun x hx => R.dk x (List.mem_of_mem_drop hx)
  refine wForL_ind (fun rest st => ∃ (rem : List (List Nat)) (acc : List Nat) (u8 : Option W), rest = rem.map D.str ∧ (∀ x ∈ rem, DeedOk s x) ∧ DeedOk s acc ∧ rem.foldl overL acc = (ds.drop k).foldl overL (idl s) ∧ st = ⟨[sc xs, l0, u2, dd (.str s), dd (bd s), dd (.lst (ds.map D.str)), dd (.str (ds.foldl overL (idl s))), dd (.str (ds.foldl overL (idl s))), u8, u9, u10, dd (.int k), dd (.str l), dd (.str acc), u14, u15, u16], r⟩) ?_ ?_ _ _ ⟨ds.drop k, idl s, u8, rfl, hm0, DeedOk.idle, rfl, rfl⟩
  · rintro st ⟨rem, acc, u8, e1, -, -, e2, rfl⟩
    cases rem with
    | cons _ _ => cases e1
    | nil =>
      have e2 : acc = _ := e2
      subst e2
      exact h u8
  · rintro d rest st ⟨rem, acc, u8, e1, hm, ha, e2, rfl⟩ K hK
    cases rem with
    | nil => cases e1
    | cons x rem =>
      simp only [List.map_cons, List.cons.injEq] at e1
      obtain ⟨rfl, e3⟩ := e1
      have hx := hm x (.head _)
      refine met_d (noB (by decide) _) ⟨[.d (bd s)], [.str acc, .str x], rfl, rfl, by simp, wFn_dat [bd s, .tup [.str acc, .str x]] rfl (then_ok (xs := [acc, x]) R.hs (List.forall_mem_cons.mpr ⟨ha, List.forall_mem_cons.mpr ⟨hx, fun _ h => nomatch h⟩⟩) ?_)⟩
      rw [two ha]
      exact hK _ ⟨rem, _, _, e3, fun y hy => hm y (.tail _ hy), ha.over hx, e2, rfl⟩
theorem l10 (R : RowK s ds) (ok : BagOk b) (h : ∀ z b', z ∈ ds → BagOk b' → DD.nx ⟨[sc xs, l0, u2, dd (.str s), dd (bd s), dd (.lst (ds.map D.str)), dd (.str (ds.foldl overL (idl s))), dd (.str (ds.foldl overL (idl s))), u8, u9, u10, u11, dd (.str l), dd (.str q), dd (.str z), u15, u16], b' :: r⟩) : L10 DD ⟨[sc xs, l0, u2, dd (.str s), dd (bd s), dd (.lst (ds.map D.str)), dd (.str (ds.foldl overL (idl s))), dd (.str (ds.foldl overL (idl s))), u8, u9, u10, u11, dd (.str l), dd (.str q), u14, u15, u16], b :: r⟩ := by
  have lo := R.lo
  have hi := R.hi
  refine ⟨rfl, wFn_bag 0 [.lst (ds.map D.str)] b rfl rfl ok ⟨_, (ds.map D.str).length, rfl, rfl, by rw [List.length_map]; omega, by rw [List.length_map]; omega, fun i hi => ix_list hi fun d hd => ?_⟩⟩
  obtain ⟨z, hz, rfl⟩ := List.mem_map.mp hd
  exact fun b' ok' => h z b' hz ok'
theorem like_at {n : Nat} {d : D} {st : Dst} {Q : DQ} {E : DX} (h : plainD n d = true) (hn : n = 6) (hq : Q (.d (.bl true)) st) : wFn (sp_like 6) [.d d, .d d] st Q E := by
  subst hn
  exact wFn_dat [d, d] rfl ⟨_, rfl, h, hq⟩
theorem plainS {xs : List (List Nat)} (hl : xs.length ≤ 100) (h : ∀ x ∈ xs, codesOk x = true) : plainD 6 (.lst (xs.map D.str)) = true := plain_lst (by rw [List.length_map]; omega) fun d hd => by
  obtain ⟨x, hx, rfl⟩ := List.mem_map.mp hd
  exact plain_str (h x hx)
theorem mem2 {a c : List Nat} {P : List Nat → Prop} (h1 : P a) (h2 : P c) : ∀ x ∈ [a, c], P x := List.forall_mem_cons.mpr ⟨h1, List.forall_mem_cons.mpr ⟨h2, fun _ h => nomatch h⟩⟩
theorem mem3 {a c d : List Nat} {P : List Nat → Prop} (h1 : P a) (h2 : P c) (h3 : P d) : ∀ x ∈ [a, c, d], P x := List.forall_mem_cons.mpr ⟨h1, mem2 h2 h3⟩
structure Cut (s : List Nat) (ds : List (List Nat)) (l q z : List Nat) : Prop where
  dl : DeedOk s l
  dq : DeedOk s q
  dz : z ∈ ds
  eq : overL l q = ds.foldl overL (idl s)
theorem l11 (R : RowK s ds) (C : Cut s ds l q z) (h : DD.nx ⟨[sc xs, l0, u2, dd (.str s), dd (bd s), dd (.lst (ds.map D.str)), dd (.str (ds.foldl overL (idl s))), dd (.str (ds.foldl overL (idl s))), u8, u9, u10, u11, dd (.str l), dd (.str q), dd (.str z), u15, u16], r⟩) : L11 DD ⟨[sc xs, l0, u2, dd (.str s), dd (bd s), dd (.lst (ds.map D.str)), dd (.str (ds.foldl overL (idl s))), dd (.str (ds.foldl overL (idl s))), u8, u9, u10, u11, dd (.str l), dd (.str q), dd (.str z), u15, u16], r⟩ := by
  have hs := R.hs
  have dw := fold_deed (DeedOk.idle (s := s)) R.dk
  refine met_d (noB (by decide) _) ⟨[.d (bd s)], [.str l, .str q], rfl, rfl, by simp, wFn_dat [bd s, .tup [.str l, .str q]] rfl (then_ok (xs := [l, q]) hs (mem2 C.dl C.dq) ?_)⟩
  rw [two C.dl, C.eq]
  refine met_d (noB (by decide) _) ⟨[.d (bd s)], [.str z, .str (ds.foldl overL (idl s))], rfl, rfl, by simp, wFn_dat [bd s, .tup [.str z, .str (ds.foldl overL (idl s))]] rfl (then_ok (xs := [z, ds.foldl overL (idl s)]) hs (mem2 (R.dk z C.dz) dw) ?_)⟩
  rw [two (R.dk z C.dz), again_whole R.dk C.dz]
  refine ⟨by simp, by simp, rfl, like_at (plainS (xs := [ds.foldl overL (idl s), ds.foldl overL (idl s), ds.foldl overL (idl s)]) (by simp) (mem3 dw.codes dw.codes dw.codes)) rfl (brF rfl h)⟩
theorem l12 (R : RowK s ds) (C : Cut s ds l q z) (h : DD.nx ⟨[sc xs, l0, u2, dd (.str s), dd (bd s), dd (.lst (ds.map D.str)), dd (.str (ds.foldl overL (idl s))), dd (.str (ds.foldl overL (idl s))), u8, u9, u10, u11, dd (.str l), dd (.str q), dd (.str z), u15, u16], r⟩) : L12 DD ⟨[sc xs, l0, u2, dd (.str s), dd (bd s), dd (.lst (ds.map D.str)), dd (.str (ds.foldl overL (idl s))), dd (.str (ds.foldl overL (idl s))), u8, u9, u10, u11, dd (.str l), dd (.str q), dd (.str z), u15, u16], r⟩ := by
  have hs := R.hs
  have dw := fold_deed (DeedOk.idle (s := s)) R.dk
  have dz := R.dk z C.dz
  refine met_d (noB (by decide) _) ⟨[.d (bd s)], [.str (ds.foldl overL (idl s)), .str (ds.foldl overL (idl s))], rfl, rfl, by simp, wFn_dat [bd s, .tup [.str (ds.foldl overL (idl s)), .str (ds.foldl overL (idl s))]] rfl (then_ok (xs := [ds.foldl overL (idl s), ds.foldl overL (idl s)]) hs (mem2 dw dw) ?_)⟩
  rw [two dw, over_self]
  refine neSelf (n := 2) (plain_str dw.codes) (brF rfl ?_)
  refine met_d (noB (by decide) _) ⟨[.d (bd s)], [.str z, .str l, .str z], rfl, rfl, by simp, wFn_dat [bd s, .tup [.str z, .str l, .str z]] rfl (then_ok (xs := [z, l, z]) hs (mem3 dz C.dl dz) ?_)⟩
  have e3 : [z, l, z].foldl overL (idl s) = overL l z := by
    show overL (overL (overL (idl s) z) l) z = _
    rw [idle_over dz.len, again_left dz C.dl]
  rw [e3]
  refine met_d (noB (by decide) _) ⟨[.d (bd s)], [.str l, .str z], rfl, rfl, by simp, wFn_dat [bd s, .tup [.str l, .str z]] rfl (then_ok (xs := [l, z]) hs (mem2 C.dl dz) ?_)⟩
  rw [two C.dl]
  exact neSelf (n := 2) (plain_str (C.dl.over dz).codes) (brF rfl h)
theorem l13 (R : RowK s ds) (C : Cut s ds l q z) (h : ∀ u15, DD.nx ⟨[sc xs, l0, u2, dd (.str s), dd (bd s), dd (.lst (ds.map D.str)), dd (.str (ds.foldl overL (idl s))), dd (.str (ds.foldl overL (idl s))), u8, u9, u10, u11, dd (.str l), dd (.str q), dd (.str z), u15, u16], r⟩) : L13 DD ⟨[sc xs, l0, u2, dd (.str s), dd (bd s), dd (.lst (ds.map D.str)), dd (.str (ds.foldl overL (idl s))), dd (.str (ds.foldl overL (idl s))), u8, u9, u10, u11, dd (.str l), dd (.str q), dd (.str z), u15, u16], r⟩ := by
  have hs := R.hs
  have h5 := hs.hi
  have dw := fold_deed (DeedOk.idle (s := s)) R.dk
  refine met_d (noB (by decide) _) ⟨rfl, wFn_dat [bd s] rfl ⟨s, rfl, hs, ?_⟩⟩
  obtain ⟨y0, ys, ey⟩ := rowsM_cons (m := []) hs
  rw [show statesM s = y0 :: ys from ey]
  refine ⟨?_⟩
  refine wForL_ind (fun rest st => ∃ (rem : List (List Nat)) (u15 : Option W), rest = rem.map D.str ∧ (∀ x ∈ rem, StateOk s x) ∧ st = ⟨[sc xs, l0, u2, dd (.str s), dd (bd s), dd (.lst (ds.map D.str)), dd (.str (ds.foldl overL (idl s))), dd (.str (ds.foldl overL (idl s))), u8, u9, u10, u11, dd (.str l), dd (.str q), dd (.str z), u15, u16], r⟩) ?_ ?_ _ _ ⟨y0 :: ys, u15, rfl, fun x hx => statesM_ok.mp (by rw [show statesM s = y0 :: ys from ey]; exact hx), rfl⟩
  · rintro st ⟨rem, u15, -, -, rfl⟩
    exact h u15
  · rintro d rest st ⟨rem, u15, e1, hm, rfl⟩ K hK
    cases rem with
    | nil => cases e1
    | cons y rem =>
      simp only [List.map_cons, List.cons.injEq] at e1
      obtain ⟨rfl, e3⟩ := e1
      have hy := hm y (.head _)
      have hyl := hy.len
      refine met_d (noB (by decide) _) ⟨[.d (bd s), .d (.str y)], [.str l, .str q], rfl, rfl, by simp, wFn_dat [bd s, .str y, .tup [.str l, .str q]] rfl ⟨s, .str y, [.str l, .str q], rfl, hs, hy.deed.pv hs, by simp, ?_, nofalse hy.B, fun _ => ⟨fun w hw => ⟨y, rfl, ?_⟩, fun v hv => ?_⟩⟩⟩
      · exact List.forall_mem_cons.mpr ⟨C.dl.pv hs, List.forall_mem_cons.mpr ⟨C.dq.pv hs, fun _ h => nomatch h⟩⟩
      · have hw' := hw
        rw [show [D.str l, D.str q] = [l, q].map D.str from rfl, thenR_deeds (mem2 C.dl C.dq)] at hw'
        have e : overL l q = w := by
          rw [← two C.dl]
          exact Except.ok.inj hw'
        rw [C.eq] at e
        subst e
        refine ⟨rfl, wFn_dat [.str y, .str (ds.foldl overL (idl s))] rfl ⟨y, _, rfl, by rw [hyl, dw.len], by omega, dw.codes, ?_⟩⟩
        have dyw : DeedOk s (overL y (ds.foldl overL (idl s))) := hy.deed.over dw
        exact ⟨rfl, like_at (n := 6) (plain_str dyw.codes) rfl (brF rfl (hK _ ⟨rem, _, e3, fun x hx => hm x (.tail _ hx), rfl⟩))⟩
      · rw [show [D.str l, D.str q] = [l, q].map D.str from rfl, thenR_deeds (mem2 C.dl C.dq)] at hv
        cases hv
end
theorem pu_law : Rd sp_law 17 LW := by
  rintro ws μ Q E ⟨xs, rfl, rfl, hq⟩
  refine ⟨rfl, wFn_cells xs rfl fun b ok => ?_⟩
  refine ⟨by decide, ⟨?_⟩⟩
  refine wForL_ind (fun rest st => ∃ u2 u3 u4 u5 u6 u7 u8 u9 u10 u11 u12 u13 u14 u15 u16 b r, st = ⟨[sc xs, l0, u2, u3, u4, u5, u6, u7, u8, u9, u10, u11, u12, u13, u14, u15, u16], b :: r⟩ ∧ BagOk b) ?_ ?_ _ _ ⟨_, _, _, _, _, _, _, _, _, _, _, _, _, _, _, b, [], rfl, ok⟩
  · rintro st ⟨u2, u3, u4, u5, u6, u7, u8, u9, u10, u11, u12, u13, u14, u15, u16, b, r, rfl, ok⟩
    exact hq _
  · rintro x0 rest st ⟨u2, u3, u4, u5, u6, u7, u8, u9, u10, u11, u12, u13, u14, u15, u16, b, r, rfl, ok⟩ KK hKK
    refine l1 (DD := ⟨_, _, _, _, _⟩) (u2 := some (.d x0)) ok fun s b1 hs hl ok1 => ?_
    refine l2 (DD := ⟨_, _, _, _, _⟩) hs ok1 fun ds b2 R ok2 => ?_
    refine l3 (DD := ⟨_, _, _, _, _⟩) hs ?_
    refine l4 (DD := ⟨_, _, _, _, _⟩) R fun v8 => ?_
    refine l5 (DD := ⟨_, _, _, _, _⟩) R fun v8 v9 v10 => ?_
    refine l6 (DD := ⟨_, _, _, _, _⟩) R ok2 fun k b3 hk ok3 => ?_
    refine l7 (DD := ⟨_, _, _, _, _⟩) hs ?_
    refine l8 (DD := ⟨_, _, _, _, _⟩) R hk fun v8 => ?_
    refine l9 (DD := ⟨_, _, _, _, _⟩) R hk fun v8 => ?_
    refine l10 (DD := ⟨_, _, _, _, _⟩) R ok3 fun z b4 hz ok4 => ?_
    have ht : ∀ x ∈ ds.take k, DeedOk s x := fun x hx => R.dk x (List.mem_of_mem_take hx)
    have hd : ∀ x ∈ ds.drop k, DeedOk s x := fun x hx => R.dk x (List.mem_of_mem_drop hx)
    have C : Cut s ds ((ds.take k).foldl overL (idl s)) ((ds.drop k).foldl overL (idl s)) z := ⟨fold_deed DeedOk.idle ht, fold_deed DeedOk.idle hd, hz, by rw [fold_two ht hd, List.take_append_drop]⟩
    refine l11 (DD := ⟨_, _, _, _, _⟩) R C ?_
    refine l12 (DD := ⟨_, _, _, _, _⟩) R C ?_
    refine l13 (DD := ⟨_, _, _, _, _⟩) R C fun v15 => ?_
    exact hKK _ ⟨_, _, _, _, _, _, _, _, _, _, _, _, _, _, _, b4, _, rfl, ok4⟩
theorem law_hc (xs : List Int) (h : xs.length ≤ 63) : sp_law [.scr xs] [] (fun w _ => w = .d (.bl true)) (fun _ _ => False) := ⟨xs, rfl, rfl, fun _ => rfl⟩
end
open Hd
section
variable [TheW] {P : Program} {w : World} {K : PySem.W.Frag} {mg : Str → Option Value} {base : Heap}
theorem ok_over (G : Gs P K mg) : FnD P w K mg base "over" 1 2 sp_over := (fnD_of G.d_over sc_over (bd_over G ) (fun ws μ Q E _ h => pu_over ws μ Q E h) (fun _ _ _ _ _ _ us hl => match us, hl with | [_, _], _ => rfl))
theorem ok_is_sizes (G : Gs P K mg) : FnD P w K mg base "is_sizes" 1 1 sp_is_sizes := (fnD_of G.d_is_sizes sc_is_sizes (bd_is_sizes G ) (fun ws μ Q E _ h => pu_is_sizes ws μ Q E h) (fun _ _ _ _ _ _ us hl => match us, hl with | [_], _ => rfl))
theorem mk1_Board (G : Gs P K mg) : MkD P w K mg base "Board" 2 2 [] sp_Board___init__ := mkD_of G.d_Board___init__ G.g_Board sc_Board___init__ (bd_Board___init__ G (by decide) (ok_is_sizes G)) (fun ws μ Q E _ h => pu_Board___init__ ws μ Q E h) (fun _ _ _ _ _ _ us hl => match us, hl with | [_, _], _ => rfl)
theorem pr_Board_idle (G : Gs P K mg) : PrD P w K mg base "Board" "idle" 1 sp_Board_idle := (prD_of G.d_Board_idle sc_Board_idle rfl (bd_Board_idle G ) (fun ws μ Q E _ h => pu_Board_idle ws μ Q E h) (fun _ _ _ _ _ _ us hl => match us, hl with | [_], _ => rfl))
theorem mt_Board_rows (G : Gs P K mg) : MtD P w K mg base "Board" "rows" 1 2 sp_Board_rows := (mtD_of G.d_Board_rows sc_Board_rows (bd_Board_rows G ) (fun ws μ Q E _ h => pu_Board_rows ws μ Q E h) (fun _ _ _ _ _ _ us hl => match us, hl with | [_, _], _ => rfl))
theorem mg_Board_all_states (G : Gs P K mg) : MtGen P w K mg base "Board" "all_states" 2 1 sp_Board_all_states := mtGen_of G.d_Board_all_states sc_Board_all_states (bd_Board_all_states G (by decide) (mt_Board_rows G)) (fun ws μ Q E _ h => pu_Board_all_states ws μ Q E h) (fun _ _ _ _ _ _ us hl => match us, hl with | [_], _ => rfl)
theorem mt_Board_is_deed (G : Gs P K mg) : MtD P w K mg base "Board" "is_deed" 1 2 sp_Board_is_deed := (mtD_of G.d_Board_is_deed sc_Board_is_deed (bd_Board_is_deed G ) (fun ws μ Q E _ h => pu_Board_is_deed ws μ Q E h) (fun _ _ _ _ _ _ us hl => match us, hl with | [_, _], _ => rfl))
theorem mt_Board_is_state (G : Gs P K mg) : MtD P w K mg base "Board" "is_state" 2 2 sp_Board_is_state := (mtD_of G.d_Board_is_state sc_Board_is_state (bd_Board_is_state G (by decide) (mt_Board_is_deed G)) (fun ws μ Q E _ h => pu_Board_is_state ws μ Q E h) (fun _ _ _ _ _ _ us hl => match us, hl with | [_, _], _ => rfl))
theorem mt_Board_need_deed (G : Gs P K mg) : MtD P w K mg base "Board" "need_deed" 2 2 sp_Board_need_deed := (mtD_of G.d_Board_need_deed sc_Board_need_deed (bd_Board_need_deed G (by decide) G.x_InvalidDeed (by decide) (mt_Board_is_deed G)) (fun ws μ Q E _ h => pu_Board_need_deed ws μ Q E h) (fun _ _ _ _ _ _ us hl => match us, hl with | [_, _], _ => rfl))
theorem mt_Board_need_state (G : Gs P K mg) : MtD P w K mg base "Board" "need_state" 3 2 sp_Board_need_state := (mtD_of G.d_Board_need_state sc_Board_need_state (bd_Board_need_state G (by decide) G.x_InvalidState (by decide) (mt_Board_is_state G)) (fun ws μ Q E _ h => pu_Board_need_state ws μ Q E h) (fun _ _ _ _ _ _ us hl => match us, hl with | [_, _], _ => rfl))
theorem st_Board_then (G : Gs P K mg) : StD P w K mg base "Board" "then" 3 1 sp_Board_then := stD_of (ps := [("self" : Str)]) (pv := "deeds") G.d_Board_then sc_Board_then rfl G.b_Board_then (bd_Board_then G (by decide) (pr_Board_idle G) (by decide) (mt_Board_need_deed G) (by decide) (ok_over G)) (fun ws μ Q E _ h => pu_Board_then ws μ Q E h) (fun _ _ _ _ _ _ us rest hl => match us, rest, hl with | [_], [], _ => rfl | [_], _ :: _, _ => rfl)
theorem st_Board_done (G : Gs P K mg) : StD P w K mg base "Board" "done" 4 2 sp_Board_done := stD_of (ps := [("self" : Str), ("state" : Str)]) (pv := "deeds") G.d_Board_done sc_Board_done rfl G.b_Board_done (bd_Board_done G (by decide) (mt_Board_need_state G) (by decide) (st_Board_then G) (by decide) (ok_over G)) (fun ws μ Q E _ h => pu_Board_done ws μ Q E h) (fun _ _ _ _ _ _ us rest hl => match us, rest, hl with | [_, _], [], _ => rfl | [_, _], _ :: _, _ => rfl)
theorem ok__law_cells (G : Gs P K mg) : FnD P w K mg base "_law_cells" 1 1 sp_law_cells := (fnD_of G.d__law_cells sc__law_cells (bd__law_cells G ) (fun ws μ Q E _ h => pure_cells ws μ Q E h) (fun _ _ _ _ _ _ us hl => match us, hl with | [_], _ => rfl))
theorem ok__law_draw (G : Gs P K mg) : FnD P w K mg base "_law_draw" 1 2 sp_law_draw := (fnD_of G.d__law_draw sc__law_draw (bd__law_draw G ) (fun ws μ Q E _ h => pure_draw ws μ Q E h) (fun _ _ _ _ _ _ us hl => match us, hl with | [_, _], _ => rfl))
theorem ok__law_any (G : Gs P K mg) : FnD P w K mg base "_law_any" 2 2 sp_law_any := (fnD_of G.d__law_any sc__law_any (bd__law_any G (by decide) (ok__law_draw G)) (fun ws μ Q E _ h => pure_any ws μ Q E h) (fun _ _ _ _ _ _ us hl => match us, hl with | [_, _], _ => rfl))
theorem ok__law_likes (G : Gs P K mg) : ∀ j : Nat, FnD P w K mg base "_law_like" (j + 1) 2 (sp_like j)
  | 0 => fnD_of G.d__law_like sc__law_like (wb := wNever) (fun _ _ _ _ _ _ _ _ _ => pssd_never) (fun ws μ Q E _ ⟨ds, _, d, _, h, _⟩ => (by unfold plainD at h; cases h)) (fun _ _ _ _ _ _ us hl => match us, hl with | [_, _], _ => rfl)
  | j + 1 => fnD_of G.d__law_like sc__law_like (bd__law_like G (Nat.le_refl (j + 1)) (ok__law_likes G j)) (fun ws μ Q E _ h => pure_like [] j ws μ Q E h) (fun _ _ _ _ _ _ us hl => match us, hl with | [_, _], _ => rfl)
theorem ok__law_like (G : Gs P K mg) : FnD P w K mg base "_law_like" 7 2 (sp_like 6) := ok__law_likes G 6
theorem ok__law_sizes (G : Gs P K mg) : FnD P w K mg base "_law_sizes" 3 2 sp__law_sizes := (fnD_of G.d__law_sizes sc__law_sizes (bd__law_sizes G (by decide) (ok__law_any G)) (fun ws μ Q E _ h => pu__law_sizes ws μ Q E h) (fun _ _ _ _ _ _ us hl => match us, hl with | [_, _], _ => rfl))
theorem ok__law_deed (G : Gs P K mg) : FnD P w K mg base "_law_deed" 3 2 sp__law_deed := (fnD_of G.d__law_deed sc__law_deed (bd__law_deed G (by decide) (ok__law_any G)) (fun ws μ Q E _ h => pu__law_deed ws μ Q E h) (fun _ _ _ _ _ _ us hl => match us, hl with | [_, _], _ => rfl))
theorem ok__law_behind (G : Gs P K mg) : FnD P w K mg base "_law_behind" 1 2 sp__law_behind := (fnD_of G.d__law_behind sc__law_behind (bd__law_behind G ) (fun ws μ Q E _ h => pu__law_behind ws μ Q E h) (fun _ _ _ _ _ _ us hl => match us, hl with | [_, _], _ => rfl))
end
theorem law_at [TheW] {w : World} {K : PySem.W.Frag} {mg : Str → Option Value} {fa : Addr} {h : Heap} (KX : K.In h) (c : SaysP fa_ fn prs tf exB w h K) (G : Gs Rw.prog K mg) (hfa : mg "law" = some (.ref fa)) : LamX.LawAtS Rw w K (L2.CX Rw.prog w) 8 63 "_law_script" mg fa h :=
  lawAt_of (N := [("_law_script" : Str), ("_law_bag" : Str), ("_law_turn" : Str), ("_law_sizes_here" : Str), ("_law_board" : Str), ("_law_row" : Str), ("_law_whole" : Str), ("_law_due" : Str), ("_law_deed_here" : Str), ("_law_at" : Str), ("_law_late" : Str), ("_law_place" : Str), ("_law_left" : Str), ("_law_right" : Str), ("_law_again" : Str), ("_law_state" : Str), ("_law_k" : Str)]) (k := 7) (c := sp_law) (tf := tf) G.d_law sc_law hfa (fun base _ _ htab => (bd_law G (by decide) (mk1_Board G) (by decide) (mg_Board_all_states G) (by decide) (st_Board_done G) (by decide) (pr_Board_idle G) (by decide) (st_Board_then G) (by decide) (ok__law_any G) (by decide) (ok__law_behind G) (by decide) (ok__law_cells G) (by decide) (ok__law_deed G) (by decide) (ok__law_draw G) (by decide) (ok__law_like G) (by decide) (ok__law_sizes G))) (fun ws μ Q E _ h => pu_law ws μ Q E h) law_hc KX c.x.hd c.x.out c.x.empty c.tl (fun _ _ _ _ _ _ us hl => match us, hl with | [_], _ => rfl)
end Lk10
open PySem PySem.W PySem.Calls PyProof.Rows
theorem PySem.Challenge.cw_overscrawl_k10_whole_rows_of_deeds_holds : PySem.Challenge.rw_overscrawl_k10_whole_rows_of_deeds.Holds := by
  w_on; o_law
  refine HandSHeadRun.head_any (r := OpenLaw.row PySem.Challenge.rw_overscrawl_k10_whole_rows_of_deeds) (q := view (OpenLaw.row PySem.Challenge.rw_overscrawl_k10_whole_rows_of_deeds).prog [21]) (H := Dl.hookE 6 Lk10.Hd.fa_ Lk10.Hd.fn Lk10.Hd.prs Lk10.Hd.tf Lk10.Hd.exB) (ob := Lk10.Hd.ob) (M := 12000) (loose := Lk10.Hd.names) (d := HandSHeadRun.topDef (OpenLaw.row PySem.Challenge.rw_overscrawl_k10_whole_rows_of_deeds).prog 21) (kwd := []) Lk10.Hd.ob_eq
    (by kernel_rfl) (fun s => by kernel_rfl) Lk10.Hd.run (by kernel_rfl) (by kernel_rfl) (by kernel_rfl) (by rfl) (by first | assumption | decide +kernel) (by decide +kernel) ⟨rfl, rfl, rfl, rfl, rfl, by decide +kernel⟩ ?hw ?hc
  case hw => w_witness2
  case hc =>
    refine LamX.walk_ofTsE (l := PySem.Challenge.rw_overscrawl_k10_whole_rows_of_deeds) (n := 63) (k := 8) (x := "_law_script") (CX := fun w => L2.CX (PySem.Challenge.rw_overscrawl_k10_whole_rows_of_deeds).prog w) rfl (by decide) (by kernel_rfl) ⟨rfl, by decide, by decide⟩ ?F (fun w H s e s' z => Dl.cx_no _ _ H s e s' z)
    intro w mg fa h Y G hmg0
    obtain ⟨K, KX, c⟩ := Y
    have hmg : mg ("law" : PySem.Str) = some (.ref fa) := by
      have e : (HandSHeadRun.topDef (OpenLaw.row PySem.Challenge.rw_overscrawl_k10_whole_rows_of_deeds).prog 21).name = ("law" : PySem.Str) := by kernel_rfl
      rw [← e]
      exact hmg0
    letI : Dl.TheW := ⟨w⟩
    exact ⟨K, KX, Lk10.law_at KX c (Lk10.Hd.gs_of KX G c) hmg⟩
