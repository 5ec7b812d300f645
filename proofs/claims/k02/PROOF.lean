import PyProof.Rows.All
import Wide.All
import OpenK.AllK
import Wide.FinOn
import HandS.ForMost
import HandS.ForExc
import HandS.Defaults
import HandS.HeadHook2
import HandS.Lambda
import HandS.HeadHook4
import KE.KDictKeyed
import KE.KeyNested
import HandS.IsInst
import HandS.Zip
import HandS.TupAny
import HandS.Wide
import HandS.HeadEnd
import HandS.HeadWalk
import HandS.Property
import HandS.FStr
import HandS.Style
import KE.KOpsOwn
import OpenK.KMeth
import HandS.MakeKw
import PyProof.InstNe
import PyProof.Conv_bool
import KE.GoesNew
import KE.GoesMore
import KE.GoesZip
import KE.GoesEnum
import HandS.More
import PyProof.StrOps2
import HandS.ClsMeth
import HandS.Star
import HandS.MethStar
import KE.KExcSuper
import KE.KExcInit
import HandS.ExcInit
import HandS.ExcOwn
import HandS.ExcValue
import HandS.ExcField
import KE.KTryMore
import KE.KDflt
import PyProof.InstSpecial
import HandS.Conv
import PyProof.P3Eq
import KE.KStateDown
import HandS.Head0
import HandS.Head1
import HandS.Head2
import PySem.Challenge.RW_overscrawl_k02_shares_refused
set_option Elab.async false
set_option linter.all false
set_option maxRecDepth 100000
set_option maxHeartbeats 4000000
namespace Dl
open PySem PySem.Spec PyProof.Rows L2

/-- the world, where a hash is asked for -/
class TheW where
  w : World
/-- a lambda of the text: its name, its parameters with whole numbers as defaults, its body -/
structure LamC where
  q : Str
  params : Arguments
  dfl : List Int
  body : Expr
  scope : Scope
/-- data that never changes -/
inductive D where
  | non | bl (b : Bool) | int (i : Int) | str (x : List Nat)
  | tup (xs : List D) | lst (xs : List D)
  | dic (ks vs : List D)
  | ins (c : Str) (ks : List Str) (vs : List D)
  /-- a built-in class, a class of the text -/
  | ty (n : String) | cls (c : Str)
  /-- an exception; a lambda of this frame, its cells; a lambda with what it captured -/
  | exc (c : Str) (ks : List Str) (vs : List D)
  | lamR (l : LamC) (cl : List (Str × Addr)) | lam (l : LamC) (ns : List Str) (vs : List D)
  deriving Inhabited

/-- an object that may change -/
inductive O where
  | dead
  | lst (xs : List D)
  | ins (c : Str) (ks : List Str) (vs : List D)
  | dic (ks vs : List D)
  deriving Inhabited

/-- a value at hand: data, or an object of the store -/
inductive W where
  | d (x : D) | loc (n : Nat)
  /-- the law's script -/
  | scr (xs : List Int)
  deriving Inhabited

/-- the way of a Bool, no definition: nothing unfolds it -/
structure brD (b : Bool) (A B : Prop) : Prop where
  yes : b = true → A
  no : b = false → B
theorem brD_t {A B : Prop} (h : brD true A B) : A := h.yes rfl
theorem brD_f {A B : Prop} (h : brD false A B) : B := h.no rfl
theorem br {b : Bool} {A B : Prop} (h1 : b = true → A) (h2 : b = false → B) : brD b A B := ⟨h1, h2⟩
theorem brT {b : Bool} {A B : Prop} (h : b = true) (h1 : A) : brD b A B := br (fun _ => h1) fun z => by rw [h] at z; cases z
theorem brF {b : Bool} {A B : Prop} (h : b = false) (h1 : B) : brD b A B := br (fun z => by rw [h] at z; cases z) fun _ => h1
abbrev mkS (x : List Nat) : Str := ⟨x.toArray⟩

/-- a tuple that stands: laid, or of the written part -/
def TupAt (K : PySem.W.Frag) (F : Hp) (a : Addr) (xs : List V) : Prop :=
  F a = some (.tup xs) ∨ ∃ (o : Obj) (its : Array Value) (n : Nat), K.lookup a = some o ∧ o.cls = .type "tuple" ∧ o.data = .seq its n ∧ its.size ≤ sizeLine ∧ Vals xs its.toList
theorem TupAt.sq {K : PySem.W.Frag} {F H : Hp} {a : Addr} {xs : List V} (h : TupAt K F a xs) (s : ∀ b o, F b = some o → H b = some o) : SqT K H a xs := h.elim (fun z => .inl (.inl (s _ _ z))) .inr
/-- at a stands this very object -/
def exactO (a : Addr) (o : Obj) : HO := .ext fun h => h.get? a = some o
inductive RawE : List DictEntry → List Int → List V → List V → Prop
  | nil : RawE [] [] [] []
  | cons {e : DictEntry} {es : List DictEntry} {hs : List Int} {k v : V} {ks vs : List V} (rk : RelV k e.key) (rv : RelV v e.val) (r : RawE es hs ks vs) : RawE (e :: es) (e.hash :: hs) (k :: ks) (v :: vs)
/-- at a stands a dict: the hashes, keys and values of its entries -/
def rawO (a : Addr) (hs : List Int) (ks us : List V) : HO := .ext fun h => ∃ o ar ep, h.get? a = some o ∧ o.ExactDict ∧ o.data = .dict ar ep ∧ RawE ar.toList hs ks us
mutual
def nkD : D → Option NestedKey
  | .non => some .none
  | .int i => some (.num i)
  | .str x => some (.text (mkS x))
  | .tup xs => (nkL xs).map .tup
  | _ => none
def nkL : List D → Option (List NestedKey)
  | [] => some []
  | d :: ds => match nkD d, nkL ds with
    | some k, some ks => some (k :: ks)
    | _, _ => none
end
def hashD [TheW] (d : D) : Int := match nkD d with
  | some k => k.hash TheW.w
  | none => 0
/-- the function of a lambda -/
structure LamF (F : Hp) (l : LamC) (cl : List (Str × Addr)) (f : Addr) (fd : FuncData) : Prop where
  obj : F f = some (exactO f { cls := .type "function", data := .func fd })
  name : fd.name = "<lambda>"
  qual : fd.qualname = l.q
  par : fd.params = l.params
  body : fd.body = .expr l.body
  scope : fd.scope = l.scope
  glob : fd.globals = mainGlobals
  clos : fd.closure = cl
  kwd : fd.kwdefaults = .none
  blt : fd.builtins = builtinsNs
  code : ∃ c, fd.code = .ref c ∧ F c = some (LamX.CodeO c l.q)
  dfl : (l.dfl = [] ∧ fd.defaults = .none) ∨ ∃ t, fd.defaults = .ref t ∧ F t = some (.tup (l.dfl.map V.int))
/-- the cells of the names hold these -/
def CellsAt (F : Hp) (cl : List (Str × Addr)) (ns : List Str) (vs : List V) : Prop :=
  ns.length = vs.length ∧ ∀ (i : Nat) (n : Str) (v : V), ns[i]? = some n → vs[i]? = some v → ∃ (c : Addr) (o : Obj) (u : Value), cl.lookup n = some c ∧ F c = some (exactO c o) ∧ o.data = .cell (some u) ∧ RelV v u
section
variable [TheW]
mutual
def Rep (K : PySem.W.Frag) (F : Hp) : D → V → Prop
  | .non, v => v = .non
  | .bl b, v => v = .bl b
  | .int i, v => v = .int i
  | .str x, v => v = .str (mkS x)
  | .tup xs, v => ∃ a vs, v = .ref a ∧ TupAt K F a vs ∧ RepL K F xs vs
  | .lst xs, v => ∃ a vs, v = .ref a ∧ F a = some (.lst vs) ∧ RepL K F xs vs
  | .dic ks ds, v => ∃ a kus us, v = .ref a ∧ F a = some (rawO a (ks.map hashD) kus us) ∧ (a == sysModules) = false ∧ RepL K F ks kus ∧ RepL K F ds us
  | .ins c ks ds, v => ∃ a dx fs, v = .ref a ∧ F a = some (.ins (He.ga K c) dx fs) ∧ fs.map (·.1) = ks ∧ RepL K F ds (fs.map (·.2))
  | .ty n, v => v = .ty n
  | .cls c, v => v = .ref (He.ga K c)
  | .exc c ks ds, v => ∃ a dx fs oe, v = .ref a ∧ F a = some (exactO a oe) ∧ Zc (.ref (He.ga K c)) (some dx) oe ∧ (∃ vs, oe.data = .fields vs) ∧ F dx = some (.xd fs) ∧ fs.map (·.1) = ks ∧ RepL K F ds (fs.map (·.2))
  | .lamR l cl, v => ∃ f fd, v = .ref f ∧ LamF F l (L2.cloFrom cl l.scope.names []) f fd
  | .lam l ns ds, v => ∃ f fd cl vs, v = .ref f ∧ LamF F l cl f fd ∧ CellsAt F cl ns vs ∧ RepL K F ds vs
def RepL (K : PySem.W.Frag) (F : Hp) : List D → List V → Prop
  | [], vs => vs = []
  | d :: ds, vs => ∃ v r, vs = v :: r ∧ Rep K F d v ∧ RepL K F ds r
end

end
def SubH (F H : Hp) : Prop := ∀ b o, F b = some o → H b = some o
theorem SubH.refl (F : Hp) : SubH F F := fun _ _ h => h
theorem SubH.trans {F G H : Hp} (a : SubH F G) (b : SubH G H) : SubH F H := fun c o h => b c o (a c o h)

theorem LamF.sub {F F' : Hp} (s : SubH F F') {l : LamC} {cl : List (Str × Addr)} {f : Addr} {fd : FuncData} (h : LamF F l cl f fd) : LamF F' l cl f fd := by
  obtain ⟨h1, h2, h3, h4, h5, h6, h7, h8, h9, h10, ⟨c, e1, e2⟩, h12⟩ := h
  exact ⟨s _ _ h1, h2, h3, h4, h5, h6, h7, h8, h9, h10, ⟨c, e1, s _ _ e2⟩, h12.imp id fun ⟨t, a, b⟩ => ⟨t, a, s _ _ b⟩⟩
theorem CellsAt.sub {F F' : Hp} (s : SubH F F') {cl : List (Str × Addr)} {ns : List Str} {vs : List V} (h : CellsAt F cl ns vs) : CellsAt F' cl ns vs :=
  ⟨h.1, fun i n v e1 e2 => let ⟨c, o, u, a, b, d, e⟩ := h.2 i n v e1 e2; ⟨c, o, u, a, s _ _ b, d, e⟩⟩
section
variable [TheW]
variable {K : PySem.W.Frag} {F F' : Hp}
theorem SqL.sub {a : Addr} {xs : List V} (s : SubH F F') (h : SqL K F a xs) : SqL K F' a xs := by
  rcases h with (h | ⟨o, h⟩) | h
  · exact .inl (.inl (s _ _ h))
  · exact .inl (.inr ⟨o, s _ _ h⟩)
  · exact .inr h
theorem TupAt.sub {a : Addr} {xs : List V} (s : SubH F F') (h : TupAt K F a xs) : TupAt K F' a xs := h.elim (fun z => .inl (s _ _ z)) .inr
mutual
theorem Rep.sub (s : SubH F F') : ∀ (d : D) (v : V), Rep K F d v → Rep K F' d v
  | .non, _, h => h
  | .bl _, _, h => h
  | .int _, _, h => h
  | .str _, _, h => h
  | .tup xs, _, h => by
    unfold Rep at h ⊢
    obtain ⟨a, vs, e, q, r⟩ := h
    exact ⟨a, vs, e, TupAt.sub s q, RepL.sub s xs vs r⟩
  | .lst xs, _, h => by
    unfold Rep at h ⊢
    obtain ⟨a, vs, e, q, r⟩ := h
    exact ⟨a, vs, e, s _ _ q, RepL.sub s xs vs r⟩
  | .dic ks ds, _, h => by
    unfold Rep at h ⊢
    obtain ⟨a, kus, us, e, q, n, r1, r2⟩ := h
    exact ⟨a, kus, us, e, s _ _ q, n, RepL.sub s ks _ r1, RepL.sub s ds _ r2⟩
  | .ins c ks ds, _, h => by
    unfold Rep at h ⊢
    obtain ⟨a, dx, fs, e, q, k, r⟩ := h
    exact ⟨a, dx, fs, e, s _ _ q, k, RepL.sub s ds _ r⟩
  | .ty _, _, h => h
  | .cls _, _, h => h
  | .exc c ks ds, _, h => by
    unfold Rep at h ⊢
    obtain ⟨a, dx, fs, oe, e, q, z, d, q2, k, r⟩ := h
    exact ⟨a, dx, fs, oe, e, s _ _ q, z, d, s _ _ q2, k, RepL.sub s ds _ r⟩
  | .lamR l cl, _, h => by
    unfold Rep at h ⊢
    obtain ⟨f, fd, e, q⟩ := h
    exact ⟨f, fd, e, q.sub s⟩
  | .lam l ns ds, _, h => by
    unfold Rep at h ⊢
    obtain ⟨f, fd, cl, vs, e, q, c, r⟩ := h
    exact ⟨f, fd, cl, vs, e, q.sub s, c.sub s, RepL.sub s ds _ r⟩
theorem RepL.sub (s : SubH F F') : ∀ (ds : List D) (vs : List V), RepL K F ds vs → RepL K F' ds vs
  | [], _, h => h
  | d :: ds, vs, h => by
    unfold RepL at h ⊢
    obtain ⟨v, r, e, q, t⟩ := h
    exact ⟨v, r, e, Rep.sub s d v q, RepL.sub s ds r t⟩
end
theorem RepL.len : ∀ {ds : List D} {vs : List V}, RepL K F ds vs → ds.length = vs.length
  | [], _, h => by unfold RepL at h; subst h; rfl
  | _ :: ds, _, h => by
    unfold RepL at h
    obtain ⟨v, r, rfl, _, t⟩ := h
    simp [RepL.len t]
theorem RepL.get : ∀ {ds : List D} {vs : List V} {i : Nat} {d : D}, RepL K F ds vs → ds[i]? = some d → ∃ v, vs[i]? = some v ∧ Rep K F d v
  | [], _, i, d, h, e => by simp at e
  | x :: ds, _, 0, d, h, e => by
    unfold RepL at h
    obtain ⟨v, r, rfl, q, t⟩ := h
    simp at e; subst e
    exact ⟨v, rfl, q⟩
  | x :: ds, _, i + 1, d, h, e => by
    unfold RepL at h
    obtain ⟨v, r, rfl, q, t⟩ := h
    obtain ⟨u, e1, e2⟩ := RepL.get (i := i) (d := d) t (by simpa using e)
    exact ⟨u, by simpa using e1, e2⟩
theorem RepL.getV : ∀ {ds : List D} {vs : List V} {i : Nat} {v : V}, RepL K F ds vs → vs[i]? = some v → ∃ d, ds[i]? = some d ∧ Rep K F d v
  | [], _, i, v, h, e => by unfold RepL at h; subst h; simp at e
  | x :: ds, _, 0, d, h, e => by
    unfold RepL at h
    obtain ⟨v, r, rfl, q, t⟩ := h
    simp at e; subst e
    exact ⟨x, rfl, q⟩
  | x :: ds, _, i + 1, d, h, e => by
    unfold RepL at h
    obtain ⟨v, r, rfl, q, t⟩ := h
    obtain ⟨u, e1, e2⟩ := RepL.getV (i := i) (v := d) t (by simpa using e)
    exact ⟨u, by simpa using e1, e2⟩
theorem RepL.app : ∀ {ds es : List D} {vs us : List V}, RepL K F ds vs → RepL K F es us → RepL K F (ds ++ es) (vs ++ us)
  | [], _, _, _, h, g => by unfold RepL at h; subst h; exact g
  | x :: ds, es, _, us, h, g => by
    unfold RepL at h
    obtain ⟨v, r, rfl, q, t⟩ := h
    show RepL K F (x :: (ds ++ es)) (v :: (r ++ us))
    unfold RepL
    exact ⟨v, _, rfl, q, RepL.app t g⟩
theorem RepL.one {d : D} {v : V} (h : Rep K F d v) : RepL K F [d] [v] := by
  unfold RepL
  exact ⟨v, [], rfl, h, by unfold RepL; rfl⟩
theorem RepL.nil : RepL K F [] [] := by unfold RepL; rfl
theorem RepL.cons {d : D} {v : V} {ds : List D} {vs : List V} (h : Rep K F d v) (t : RepL K F ds vs) : RepL K F (d :: ds) (v :: vs) := by
  unfold RepL
  exact ⟨v, vs, rfl, h, t⟩
theorem RepL.take : ∀ {ds : List D} {vs : List V} (n : Nat), RepL K F ds vs → RepL K F (ds.take n) (vs.take n)
  | [], _, n, h => by unfold RepL at h; subst h; simp; exact RepL.nil
  | x :: ds, _, 0, h => by simp; exact RepL.nil
  | x :: ds, _, n + 1, h => by
    unfold RepL at h
    obtain ⟨v, r, rfl, q, t⟩ := h
    exact RepL.cons q (RepL.take n t)
theorem RepL.drop : ∀ {ds : List D} {vs : List V} (n : Nat), RepL K F ds vs → RepL K F (ds.drop n) (vs.drop n)
  | [], _, n, h => by unfold RepL at h; subst h; simp; exact RepL.nil
  | x :: ds, _, 0, h => h
  | x :: ds, _, n + 1, h => by
    unfold RepL at h
    obtain ⟨v, r, rfl, q, t⟩ := h
    exact RepL.drop n t
end

/-- the defs that make lambdas -/
def lamDefs : List He.Defn := [("law", none), ("products_of", none), ("_law_spread", none), ("_law_far_told", none), ("_law_beyond", none), ("_law_full_shelf", none), ("_law_book_deed", none), ("_law_full_pages", none), ("_law_moved", none)]
def lamQ (p : He.Defn) : Str := p.1 ++ ".<locals>.<lambda>"
/-- a table of code objects: what it tells is known -/
def TabF (F H : Hp) (P : Addr) (q : Str) : Prop := ∃ ps : Array Value, F P = none ∧ H P = some (.tbl ps) ∧ TriplesOk ps.toList ∧ ∀ (pos : Pos) (cv : Value), codeAmong pos ps.toList = some cv → ∃ c, cv = .ref c ∧ F c = some (LamX.CodeO c q)
def TabsK (K : PySem.W.Frag) (F H : Hp) : Prop := ∀ p ∈ lamDefs, PySem.W.codeHdIn K (He.cT K p).1 (He.cT K p).2 = true → TabF F H (He.cT K p).2 (lamQ p)
theorem TabF.ext {F F' H H' : Hp} {P : Addr} {q : Str} (t : TabF F H P q) (s : SubH F F') (f : F P = none → F' P = none) (e : ∀ ps, H P = some (.tbl ps) → H' P = some (.tbl ps)) : TabF F' H' P q := by
  obtain ⟨ps, h0, h1, h2, h3⟩ := t
  exact ⟨ps, f h0, e _ h1, h2, fun pos cv hc => let ⟨c, e1, e2⟩ := h3 pos cv hc; ⟨c, e1, s _ _ e2⟩⟩
/-- the tables stay as they are -/
theorem TabsK.ext {K : PySem.W.Frag} {F F' H H' : Hp} (t : TabsK K F H) (s : SubH F F') (f : ∀ b ps, F b = none → H b = some (.tbl ps) → F' b = none ∧ H' b = some (.tbl ps)) : TabsK K F' H' := fun p hp hc => by
  have z := t p hp hc
  obtain ⟨ps, h0, h1, _⟩ := id z
  obtain ⟨f0, f1⟩ := f _ _ h0 h1
  exact z.ext s (fun _ => f0) fun qs e => by rw [h1] at e; cases e; exact f1
def OOk [TheW] (K : PySem.W.Frag) (F H : Hp) (a : Addr) : O → Prop
  | .dead => True
  | .lst xs => F a = none ∧ ∃ vs, H a = some (.lst vs) ∧ RepL K F xs vs
  | .ins c ks ds => F a = none ∧ ∃ dx fs, H a = some (.ins (He.ga K c) dx fs) ∧ fs.map (·.1) = ks ∧ RepL K F ds (fs.map (·.2))
  | .dic ks ds => F a = none ∧ ∃ kus us, H a = some (rawO a (ks.map hashD) kus us) ∧ (a == sysModules) = false ∧ RepL K F ks kus ∧ RepL K F ds us
structure StOk [TheW] (K : PySem.W.Frag) (F : Hp) (ρ : List Addr) (μ : List O) (H : Hp) : Prop where
  sub : SubH F H
  len : ρ.length = μ.length
  nd : ρ.Nodup
  dom : ∀ a ∈ ρ, H a ≠ none
  obj : ∀ (i : Nat) a o, ρ[i]? = some a → μ[i]? = some o → OOk K F H a o
  tabs : TabsK K F H
  notab : ∀ a ∈ ρ, ∀ ps, H a ≠ some (.tbl ps)
/-- what an operation may have done -/
structure Post (F : Hp) (ρ : List Addr) (H : Hp) (F' : Hp) (ρ' : List Addr) (H' : Hp) : Prop where
  le : SubH F F'
  pre : ∃ t, ρ' = ρ ++ t
  new : ∀ b, F' b ≠ none → F b ≠ none ∨ H b = none ∨ b ∈ ρ
  keepT : ∀ b o, H b = some o → b ∉ ρ → H' b = some o ∨ ∃ ps qs, o = .tbl ps ∧ H' b = some (.tbl qs)
  fresh : ∀ b, b ∈ ρ' → b ∉ ρ → H b = none
section
variable [TheW]
variable {K : PySem.W.Frag} {F F1 F2 : Hp} {ρ ρ1 ρ2 : List Addr} {H H1 H2 : Hp} {μ : List O}
theorem Post.refl (F : Hp) (ρ : List Addr) (H : Hp) : Post F ρ H F ρ H := ⟨SubH.refl F, ⟨[], by simp⟩, fun _ h => .inl h, fun _ _ h _ => .inl h, fun b h n => absurd h n⟩
theorem Post.keep (a : Post F ρ H F1 ρ1 H1) (b : Addr) (o : HO) (h : H b = some o) (n : b ∉ ρ) (nt : ∀ ps, o ≠ .tbl ps) : H1 b = some o :=
  (a.keepT b o h n).elim id fun ⟨ps, _, e, _⟩ => absurd e (nt ps)
theorem Post.dom (a : Post F ρ H F1 ρ1 H1) {b : Addr} {o : HO} (h : H b = some o) (n : b ∉ ρ) : H1 b ≠ none := by
  rcases a.keepT b o h n with e | ⟨ps, qs, _, e⟩
  · rw [e]; simp
  · rw [e]; simp
theorem Post.mem (a : Post F ρ H F1 ρ1 H1) {b : Addr} (h : b ∈ ρ) : b ∈ ρ1 := by
  obtain ⟨t, e⟩ := a.pre
  rw [e]
  exact List.mem_append_left _ h
theorem Post.back (a : Post F ρ H F1 ρ1 H1) {b : Addr} (h : H1 b = none) (n : b ∉ ρ) : H b = none := by
  cases q : H b with
  | none => rfl
  | some o => exact absurd h (a.dom q n)
theorem Post.trans (a : Post F ρ H F1 ρ1 H1) (b : Post F1 ρ1 H1 F2 ρ2 H2) (d : ∀ c ∈ ρ1, H1 c ≠ none) : Post F ρ H F2 ρ2 H2 := by
  refine ⟨a.le.trans b.le, ?_, fun c h => ?_, fun c o h n => ?_, fun c h n => ?_⟩
  · obtain ⟨t, e⟩ := a.pre
    obtain ⟨u, e'⟩ := b.pre
    exact ⟨t ++ u, by rw [e', e, List.append_assoc]⟩
  · by_cases hm : c ∈ ρ
    · exact .inr (.inr hm)
    · rcases b.new c h with h | h | h
      · exact a.new c h
      · exact .inr (.inl (a.back h hm))
      · exact .inr (.inl (a.fresh c h hm))
  · have nm : c ∉ ρ1 := fun hm => by rw [a.fresh c hm n] at h; cases h
    rcases a.keepT c o h n with e | ⟨ps, qs, e1, e2⟩
    · exact b.keepT c o e nm
    · rcases b.keepT c _ e2 nm with e | ⟨ps', qs', e3, e4⟩
      · exact .inr ⟨ps, qs, e1, e⟩
      · exact .inr ⟨ps, qs', e1, e4⟩
  · by_cases hm : c ∈ ρ1
    · exact a.fresh c hm n
    · exact a.back (b.fresh c h hm) n
theorem Post.get (a : Post F ρ H F1 ρ1 H1) {i : Nat} {x : Addr} (h : ρ[i]? = some x) : ρ1[i]? = some x := by
  obtain ⟨t, e⟩ := a.pre
  obtain ⟨hi, e2⟩ := List.getElem?_eq_some_iff.mp h
  rw [e, List.getElem?_append_left hi, h]
/-- a new thing laid, kept as data -/
theorem Post.data {p : Addr} {o : HO} (sub : SubH F H) (hp : H p = none) : Post F ρ H (upd F p o) ρ (upd H p o) := by
  have hf : F p = none := by
    cases q : F p with
    | none => rfl
    | some u => rw [sub p u q] at hp; cases hp
  refine ⟨fun b u h => ?_, ⟨[], by simp⟩, fun b h => ?_, fun b u h _ => ?_, fun b h n => absurd h n⟩
  · rw [upd_ne (ne_of_none h hf)]; exact h
  · by_cases e : b = p
    · subst e; exact .inr (.inl hp)
    · rw [upd_ne e] at h; exact .inl h
  · exact .inl (by rw [upd_ne (ne_of_none h hp)]; exact h)
theorem SubH.upd {p : Addr} {o : HO} (sub : SubH F H) : SubH (L2.upd F p o) (L2.upd H p o) := fun b u h => by
  by_cases e : b = p
  · subst e; rw [upd_same] at h ⊢; exact h
  · rw [upd_ne e] at h ⊢; exact sub b u h
theorem OOk.mono {K : PySem.W.Frag} {a : Addr} {o : O} (h : OOk K F H a o) (s : SubH F F1) (hf : F a = none → F1 a = none) (hh : ∀ u, H a = some u → H1 a = some u) : OOk K F1 H1 a o := by
  cases o with
  | dead => trivial
  | lst xs =>
    obtain ⟨e, vs, q, r⟩ := h
    exact ⟨hf e, vs, hh _ q, RepL.sub s _ _ r⟩
  | ins c ks ds =>
    obtain ⟨e, dx, fs, q, k, r⟩ := h
    exact ⟨hf e, dx, fs, hh _ q, k, RepL.sub s _ _ r⟩
  | dic ks ds =>
    obtain ⟨e, kus, us, q, n, r1, r2⟩ := h
    exact ⟨hf e, kus, us, hh _ q, n, RepL.sub s _ _ r1, RepL.sub s _ _ r2⟩
theorem StOk.data {p : Addr} {o : HO} (h : StOk K F ρ μ H) (hp : H p = none) : StOk K (L2.upd F p o) ρ μ (L2.upd H p o) := by
  have hf : F p = none := by
    cases q : F p with
    | none => rfl
    | some u => rw [h.sub p u q] at hp; cases hp
  have np : ∀ a ∈ ρ, a ≠ p := fun a ha e => h.dom a ha (e ▸ hp)
  refine ⟨h.sub.upd, h.len, h.nd, fun a ha => by rw [upd_ne (np a ha)]; exact h.dom a ha, fun i a o' e1 e2 => ?_, h.tabs.ext (Post.data h.sub hp (ρ := ρ)).le fun b ps f e => ?_, fun a ha ps => by rw [upd_ne (np a ha)]; exact h.notab a ha ps⟩
  · have na := np a (List.mem_of_getElem? e1)
    exact (h.obj i a o' e1 e2).mono (Post.data h.sub hp (ρ := ρ)).le (fun e => by rw [upd_ne na]; exact e) fun u e => by rw [upd_ne na]; exact e
  · have nb : b ≠ p := ne_of_none e hp
    rw [upd_ne nb, upd_ne nb]; exact ⟨f, e⟩
end

section
variable [TheW]
def RepW (K : PySem.W.Frag) (F : Hp) (ρ : List Addr) : W → V → Prop
  | .d x, v => Rep K F x v
  | .loc n, v => ∃ a, ρ[n]? = some a ∧ v = .ref a
  | .scr xs, v => ∃ a, v = .ref a ∧ SqL K F a (xs.map V.int)
def RepWL (K : PySem.W.Frag) (F : Hp) (ρ : List Addr) : List W → List V → Prop
  | [], vs => vs = []
  | w :: ws, vs => ∃ v r, vs = v :: r ∧ RepW K F ρ w v ∧ RepWL K F ρ ws r
section
variable {K : PySem.W.Frag} {F F1 : Hp} {ρ ρ1 : List Addr} {H H1 : Hp}
theorem RepW.post {w : W} {v : V} (h : RepW K F ρ w v) (p : Post F ρ H F1 ρ1 H1) : RepW K F1 ρ1 w v := by
  cases w with
  | d x => exact Rep.sub p.le x v h
  | loc n =>
    obtain ⟨a, e, q⟩ := h
    exact ⟨a, p.get e, q⟩
  | scr xs =>
    obtain ⟨a, e, q⟩ := h
    exact ⟨a, e, SqL.sub p.le q⟩
theorem RepWL.post : ∀ {ws : List W} {vs : List V}, RepWL K F ρ ws vs → Post F ρ H F1 ρ1 H1 → RepWL K F1 ρ1 ws vs
  | [], _, h, _ => h
  | w :: ws, _, h, p => by
    obtain ⟨v, r, e, q, t⟩ := h
    exact ⟨v, r, e, q.post p, t.post p⟩
theorem RepWL.len : ∀ {ws : List W} {vs : List V}, RepWL K F ρ ws vs → ws.length = vs.length
  | [], _, h => by cases h; rfl
  | w :: ws, _, h => by
    obtain ⟨v, r, rfl, q, t⟩ := h
    simp [t.len]
theorem RepWL.ofD : ∀ {ds : List D} {vs : List V}, RepWL K F ρ (ds.map W.d) vs → RepL K F ds vs
  | [], _, h => by cases h; exact RepL.nil
  | d :: ds, _, h => by
    obtain ⟨v, r, rfl, q, t⟩ := h
    exact RepL.cons q t.ofD
theorem RepWL.toD : ∀ {ds : List D} {vs : List V}, RepL K F ds vs → RepWL K F ρ (ds.map W.d) vs
  | [], _, h => by unfold RepL at h; exact h
  | d :: ds, _, h => by
    unfold RepL at h
    obtain ⟨v, r, rfl, q, t⟩ := h
    exact ⟨v, r, rfl, q, RepWL.toD t⟩
end

structure Dst where
  δ : List (Option W)
  μ : List O
/-- an exception: its class, its fields -/
structure Ex where
  c : Str
  ks : List Str
  vs : List D
abbrev DQ := W → Dst → Prop
abbrev DX := Ex → Dst → Prop
abbrev DE := Dst → DQ → DX → Prop
abbrev DT := Dst → (Bool → Dst → Prop) → DX → Prop
abbrev DA := Dst → (List W → Dst → Prop) → DX → Prop
structure DEnds where
  nx : Dst → Prop
  rt : W → List O → Prop
  ex : DX
  bk : Dst → Prop := fun _ => False
  ct : Dst → Prop := fun _ => False
abbrev DS := DEnds → Dst → Prop
/-- the entry of a body -/
structure En where
  F : Hp
  ρ : List Addr
  H : Hp
def ExRep (K : PySem.W.Frag) (F : Hp) (x : Ex) (cls : Value) (d : Option Addr) (H : Hp) : Prop :=
  cls = .ref (He.ga K x.c) ∧ ∃ dx fs, d = some dx ∧ F dx = some (.xd fs) ∧ fs.map (·.1) = x.ks ∧ RepL K F x.vs (fs.map (·.2))
structure Rl (K : PySem.W.Frag) (n : En) (F : Hp) (ρ : List Addr) (st : Dst) (σ : L2.St) (H : Hp) : Prop where
  ok : StOk K F ρ st.μ H
  po : Post n.F n.ρ n.H F ρ H
  len : st.δ.length = σ.length
  slots : ∀ (i : Nat) w, st.δ[i]? = some (some w) → ∃ v, σ[i]? = some (some v) ∧ RepW K F ρ w v
def TkD (X : Cx) (n : En) (E : DX) : Prop := Takes X (fun cls d σ H => ∃ st F ρ x, Rl X.K n F ρ st σ H ∧ ExRep X.K F x cls d H ∧ E x st)
def EPD (X : Cx) (n : En) (pins : List (Addr × Obj)) (σ : L2.St) (F : Hp) (ρ : List Addr) (H : Hp) (Q : DQ) (u : Value) (s' : Shared) : Prop :=
  ∃ v w st' H' F' ρ', Inv X pins σ H' s' ∧ RelV v u ∧ Post F ρ H F' ρ' H' ∧ Rl X.K n F' ρ' st' σ H' ∧ RepW X.K F' ρ' w v ∧ Q w st'
def TPD (X : Cx) (n : En) (pins : List (Addr × Obj)) (σ : L2.St) (F : Hp) (ρ : List Addr) (H : Hp) (Q : Bool → Dst → Prop) (b : Bool) (s' : Shared) : Prop :=
  ∃ st' H' F' ρ', Inv X pins σ H' s' ∧ Post F ρ H F' ρ' H' ∧ Rl X.K n F' ρ' st' σ H' ∧ Q b st'
def APD (X : Cx) (n : En) (pins : List (Addr × Obj)) (σ : L2.St) (F : Hp) (ρ : List Addr) (H : Hp) (Q : List W → Dst → Prop) (us : List Value) (s' : Shared) : Prop :=
  ∃ vs ws st' H' F' ρ', Inv X pins σ H' s' ∧ Vals vs us ∧ Post F ρ H F' ρ' H' ∧ Rl X.K n F' ρ' st' σ H' ∧ RepWL X.K F' ρ' ws vs ∧ Q ws st'
def SPD (X : Cx) (n : En) (pins : List (Addr × Obj)) (F : Hp) (ρ : List Addr) (H : Hp) (D : DEnds) (f : Flow) (s' : Shared) : Prop :=
  match f with
  | .next => ∃ σ' H' F' ρ' st', Inv X pins σ' H' s' ∧ Post F ρ H F' ρ' H' ∧ Rl X.K n F' ρ' st' σ' H' ∧ D.nx st'
  | .brk => ∃ σ' H' F' ρ' st', Inv X pins σ' H' s' ∧ Post F ρ H F' ρ' H' ∧ Rl X.K n F' ρ' st' σ' H' ∧ D.bk st'
  | .cont => ∃ σ' H' F' ρ' st', Inv X pins σ' H' s' ∧ Post F ρ H F' ρ' H' ∧ Rl X.K n F' ρ' st' σ' H' ∧ D.ct st'
  | .ret u => ∃ v w σ' H' F' ρ' μ, Inv X pins σ' H' s' ∧ RelV v u ∧ Post F ρ H F' ρ' H' ∧ Post n.F n.ρ n.H F' ρ' H' ∧ StOk X.K F' ρ' μ H' ∧ RepW X.K F' ρ' w v ∧ D.rt w μ
structure PD (X : Cx) (n : En) (e : Expr) (w : DE) : Prop where
  run : ∀ (pins : List (Addr × Obj)) (s : Shared) (σ : L2.St) (H F : Hp) (ρ : List Addr) (st : Dst) (Q : DQ) (E : DX), Inv X pins σ H s → Rl X.K n F ρ st σ H → TkD X n E → w st Q E →
    wpAny (model X.prog X.w) X.A (eval e X.env) (EPD X n pins σ F ρ H Q) X.xe s
structure PTD (X : Cx) (n : En) (e : Expr) (w : DT) : Prop where
  run : ∀ (pins : List (Addr × Obj)) (s : Shared) (σ : L2.St) (H F : Hp) (ρ : List Addr) (st : Dst) (Q : Bool → Dst → Prop) (E : DX), Inv X pins σ H s → Rl X.K n F ρ st σ H → TkD X n E → w st Q E →
    wpAny (model X.prog X.w) X.A (isTrue e X.env (eval e X.env)) (TPD X n pins σ F ρ H Q) X.xe s
/-- whatever its 'whole' is -/
structure PWD (X : Cx) (n : En) (e : Expr) (w : DT) : Prop where
  run : ∀ (whole : Sem Value) (pins : List (Addr × Obj)) (s : Shared) (σ : L2.St) (H F : Hp) (ρ : List Addr) (st : Dst) (Q : Bool → Dst → Prop) (E : DX), Inv X pins σ H s → Rl X.K n F ρ st σ H → TkD X n E → w st Q E →
    wpAny (model X.prog X.w) X.A (isTrue e X.env whole) (TPD X n pins σ F ρ H Q) X.xe s
theorem PWD.pt {X : Cx} {n : En} {e : Expr} {w : DT} (h : PWD X n e w) : PTD X n e w := ⟨h.run _⟩
structure PAD (X : Cx) (n : En) (es : List Expr) (w : DA) : Prop where
  run : ∀ (pos : Pos) (pins : List (Addr × Obj)) (s : Shared) (σ : L2.St) (H F : Hp) (ρ : List Addr) (st : Dst) (Q : List W → Dst → Prop) (E : DX), Inv X pins σ H s → Rl X.K n F ρ st σ H → TkD X n E → w st Q E →
    wpAny (model X.prog X.w) X.A (spliced (backTo pos (starEach es X.env))) (APD X n pins σ F ρ H Q) X.xe s
structure PSD (X : Cx) (n : En) (c : Stmt) (w : DS) : Prop where
  run : ∀ (pins : List (Addr × Obj)) (s : Shared) (σ : L2.St) (H F : Hp) (ρ : List Addr) (st : Dst) (D : DEnds), Inv X pins σ H s → Rl X.K n F ρ st σ H → TkD X n D.ex → w D st →
    wpAny (model X.prog X.w) X.A (exec c X.env) (SPD X n pins F ρ H D) X.xe s
structure PSSD (X : Cx) (n : En) (c : List Stmt) (w : DS) : Prop where
  run : ∀ (pins : List (Addr × Obj)) (s : Shared) (σ : L2.St) (H F : Hp) (ρ : List Addr) (st : Dst) (D : DEnds), Inv X pins σ H s → Rl X.K n F ρ st σ H → TkD X n D.ex → w D st →
    wpAny (model X.prog X.w) X.A (execs c X.env) (SPD X n pins F ρ H D) X.xe s

section
variable {K : PySem.W.Frag} {n : En} {F F1 F2 : Hp} {ρ ρ1 ρ2 : List Addr} {st st1 : Dst} {σ : L2.St} {H H1 H2 : Hp}
/-- a state after an operation on the heap alone -/
theorem Rl.step (R : Rl K n F ρ st σ H) (p : Post F ρ H F1 ρ1 H1) {μ : List O} (ok : StOk K F1 ρ1 μ H1) : Rl K n F1 ρ1 { st with μ := μ } σ H1 :=
  ⟨ok, R.po.trans p R.ok.dom, R.len, fun i w e => let ⟨v, a, b⟩ := R.slots i w e; ⟨v, a, b.post p⟩⟩
theorem Rl.data (R : Rl K n F ρ st σ H) {p : Addr} {o : HO} (hp : H p = none) : Rl K n (L2.upd F p o) ρ st σ (L2.upd H p o) :=
  R.step (Post.data R.ok.sub hp) (R.ok.data hp)
end

def tE (X : Cx) (n : En) (w : DE) : TE := fun σ H Q => ∃ F ρ st DQ E, Rl X.K n F ρ st σ H ∧ TkD X n E ∧ w st DQ E ∧
  ∀ v w' st' H' F' ρ', Post F ρ H F' ρ' H' → Rl X.K n F' ρ' st' σ H' → RepW X.K F' ρ' w' v → DQ w' st' → Q v H'
def tT (X : Cx) (n : En) (w : DT) : TT := fun σ H Q => ∃ F ρ st DQ E, Rl X.K n F ρ st σ H ∧ TkD X n E ∧ w st DQ E ∧
  ∀ b st' H' F' ρ', Post F ρ H F' ρ' H' → Rl X.K n F' ρ' st' σ H' → DQ b st' → Q b H'
def tA (X : Cx) (n : En) (w : DA) : TA := fun σ H Q => ∃ F ρ st DQ E, Rl X.K n F ρ st σ H ∧ TkD X n E ∧ w st DQ E ∧
  ∀ vs ws st' H' F' ρ', Post F ρ H F' ρ' H' → Rl X.K n F' ρ' st' σ H' → RepWL X.K F' ρ' ws vs → DQ ws st' → Q vs H'
def tS (X : Cx) (n : En) (w : DS) : TS := fun D σ H => ∃ F ρ st DD, Rl X.K n F ρ st σ H ∧ TkD X n DD.ex ∧ w DD st ∧
  (∀ σ' H' F' ρ' st', Post F ρ H F' ρ' H' → Rl X.K n F' ρ' st' σ' H' → DD.nx st' → D.nx σ' H') ∧ (∀ v w' H' F' ρ' μ, Post F ρ H F' ρ' H' → Post n.F n.ρ n.H F' ρ' H' → StOk X.K F' ρ' μ H' → RepW X.K F' ρ' w' v → DD.rt w' μ → D.rt v H') ∧
  (∀ σ' H' F' ρ' st', Post F ρ H F' ρ' H' → Rl X.K n F' ρ' st' σ' H' → DD.bk st' → D.bk σ' H') ∧ (∀ σ' H' F' ρ' st', Post F ρ H F' ρ' H' → Rl X.K n F' ρ' st' σ' H' → DD.ct st' → D.ct σ' H')
section
variable {X : Cx} {n : En}
theorem PD.pe {e : Expr} {w : DE} (h : PD X n e w) : PE X e (tE X n w) := by
  refine ⟨fun pins s σ H Q I ⟨F, ρ, st, DQ, E, R, tk, hw, k⟩ => ?_⟩
  refine thn (h.run pins s σ H F ρ st DQ E I R tk hw) fun u s1 ⟨v, w', st', H', F', ρ', I', r, a, b, c, d⟩ => ?_
  exact ⟨v, H', I', r, k v w' st' H' F' ρ' a b c d⟩
theorem PTD.pt {e : Expr} {w : DT} (h : PTD X n e w) : PT X e (tT X n w) := by
  refine ⟨fun pins s σ H Q I ⟨F, ρ, st, DQ, E, R, tk, hw, k⟩ => ?_⟩
  refine thn (h.run pins s σ H F ρ st DQ E I R tk hw) fun u s1 ⟨st', H', F', ρ', I', a, b, d⟩ => ?_
  exact ⟨H', I', k u st' H' F' ρ' a b d⟩
theorem PWD.pw {e : Expr} {w : DT} (h : PWD X n e w) : PW X e (tT X n w) := by
  refine ⟨fun wh pins s σ H Q I ⟨F, ρ, st, DQ, E, R, tk, hw, k⟩ => ?_⟩
  refine thn (h.run wh pins s σ H F ρ st DQ E I R tk hw) fun u s1 ⟨st', H', F', ρ', I', a, b, d⟩ => ?_
  exact ⟨H', I', k u st' H' F' ρ' a b d⟩
theorem PAD.pa {es : List Expr} {w : DA} (h : PAD X n es w) : PA X es (tA X n w) := by
  refine ⟨fun pos pins s σ H Q I ⟨F, ρ, st, DQ, E, R, tk, hw, k⟩ => ?_⟩
  refine thn (h.run pos pins s σ H F ρ st DQ E I R tk hw) fun u s1 ⟨v, w', st', H', F', ρ', I', r, a, b, c, d⟩ => ?_
  exact ⟨v, H', I', r, k v w' st' H' F' ρ' a b c d⟩
theorem SPD.sp {pins : List (Addr × Obj)} {F : Hp} {ρ : List Addr} {H : Hp} {DD : DEnds} {D : Ends} {f : Flow} {s' : Shared} (h : SPD X n pins F ρ H DD f s')
  (k1 : ∀ σ' H' F' ρ' st', Post F ρ H F' ρ' H' → Rl X.K n F' ρ' st' σ' H' → DD.nx st' → D.nx σ' H') (k2 : ∀ v w' H' F' ρ' μ, Post F ρ H F' ρ' H' → Post n.F n.ρ n.H F' ρ' H' → StOk X.K F' ρ' μ H' → RepW X.K F' ρ' w' v → DD.rt w' μ → D.rt v H')
  (k3 : ∀ σ' H' F' ρ' st', Post F ρ H F' ρ' H' → Rl X.K n F' ρ' st' σ' H' → DD.bk st' → D.bk σ' H') (k4 : ∀ σ' H' F' ρ' st', Post F ρ H F' ρ' H' → Rl X.K n F' ρ' st' σ' H' → DD.ct st' → D.ct σ' H') : SP X pins D f s' := by
  cases f with
  | next => obtain ⟨σ', H', F', ρ', st', I, p, R, q⟩ := h; exact ⟨σ', H', I, k1 _ _ _ _ _ p R q⟩
  | brk => obtain ⟨σ', H', F', ρ', st', I, p, R, q⟩ := h; exact ⟨σ', H', I, k3 _ _ _ _ _ p R q⟩
  | cont => obtain ⟨σ', H', F', ρ', st', I, p, R, q⟩ := h; exact ⟨σ', H', I, k4 _ _ _ _ _ p R q⟩
  | ret u => obtain ⟨v, w', σ', H', F', ρ', μ, I, r, p, p0, ok, rw, q⟩ := h; exact ⟨v, σ', H', I, r, k2 _ _ _ _ _ _ p p0 ok rw q⟩
theorem PSD.ps {c : Stmt} {w : DS} (h : PSD X n c w) : PS X c (tS X n w) := by
  refine ⟨fun pins s σ H D I ⟨F, ρ, st, DD, R, tk, hw, k1, k2, k3, k4⟩ => ?_⟩
  exact thn (h.run pins s σ H F ρ st DD I R tk hw) fun f s1 q => q.sp k1 k2 k3 k4
theorem PSSD.pss {c : List Stmt} {w : DS} (h : PSSD X n c w) : PSs X c (tS X n w) := by
  refine ⟨fun pins s σ H D I ⟨F, ρ, st, DD, R, tk, hw, k1, k2, k3, k4⟩ => ?_⟩
  exact thn (h.run pins s σ H F ρ st DD I R tk hw) fun f s1 q => q.sp k1 k2 k3 k4
/-- what is behind: the wish over D, as a wish of the layer below -/
abbrev qE (X : Cx) (n : En) (σ : L2.St) (F : Hp) (ρ : List Addr) (H : Hp) (Q : DQ) : VK := fun v H' => ∃ w' st' F' ρ', Post F ρ H F' ρ' H' ∧ Rl X.K n F' ρ' st' σ H' ∧ RepW X.K F' ρ' w' v ∧ Q w' st'
abbrev qT (X : Cx) (n : En) (σ : L2.St) (F : Hp) (ρ : List Addr) (H : Hp) (Q : Bool → Dst → Prop) : Bool → Hp → Prop := fun b H' => ∃ st' F' ρ', Post F ρ H F' ρ' H' ∧ Rl X.K n F' ρ' st' σ H' ∧ Q b st'
abbrev qA (X : Cx) (n : En) (σ : L2.St) (F : Hp) (ρ : List Addr) (H : Hp) (Q : List W → Dst → Prop) : List V → Hp → Prop := fun vs H' => ∃ ws st' F' ρ', Post F ρ H F' ρ' H' ∧ Rl X.K n F' ρ' st' σ H' ∧ RepWL X.K F' ρ' ws vs ∧ Q ws st'
abbrev qN (X : Cx) (n : En) (F : Hp) (ρ : List Addr) (H : Hp) (Q : Dst → Prop) : L2.St → Hp → Prop := fun σ' H' => ∃ F' ρ' st', Post F ρ H F' ρ' H' ∧ Rl X.K n F' ρ' st' σ' H' ∧ Q st'
abbrev qD (X : Cx) (n : En) (F : Hp) (ρ : List Addr) (H : Hp) (D : DEnds) : Ends where
  nx := qN X n F ρ H D.nx
  rt := fun v H' => ∃ w' F' ρ' μ, Post F ρ H F' ρ' H' ∧ Post n.F n.ρ n.H F' ρ' H' ∧ StOk X.K F' ρ' μ H' ∧ RepW X.K F' ρ' w' v ∧ D.rt w' μ
  bk := qN X n F ρ H D.bk
  ct := qN X n F ρ H D.ct
theorem pd_of {e : Expr} {t : TE} {w : DE} (h : PE X e t)
    (sim : ∀ (σ : L2.St) (H F : Hp) (ρ : List Addr) (st : Dst) (Q : DQ) (E : DX), Rl X.K n F ρ st σ H → TkD X n E → w st Q E → t σ H (qE X n σ F ρ H Q)) : PD X n e w := by
  refine ⟨fun pins s σ H F ρ st Q E I R tk hw => ?_⟩
  refine thn (h.run pins s σ H _ I (sim σ H F ρ st Q E R tk hw)) fun u s1 ⟨v, H', I', r, w', st', F', ρ', a, b, c, d⟩ => ?_
  exact ⟨v, w', st', H', F', ρ', I', r, a, b, c, d⟩
theorem ptd_of {e : Expr} {t : TT} {w : DT} (h : PT X e t)
    (sim : ∀ (σ : L2.St) (H F : Hp) (ρ : List Addr) (st : Dst) (Q : Bool → Dst → Prop) (E : DX), Rl X.K n F ρ st σ H → TkD X n E → w st Q E → t σ H (qT X n σ F ρ H Q)) : PTD X n e w := by
  refine ⟨fun pins s σ H F ρ st Q E I R tk hw => ?_⟩
  refine thn (h.run pins s σ H _ I (sim σ H F ρ st Q E R tk hw)) fun u s1 ⟨H', I', st', F', ρ', a, b, d⟩ => ?_
  exact ⟨st', H', F', ρ', I', a, b, d⟩
theorem pwd_of {e : Expr} {t : TT} {w : DT} (h : PW X e t)
    (sim : ∀ (σ : L2.St) (H F : Hp) (ρ : List Addr) (st : Dst) (Q : Bool → Dst → Prop) (E : DX), Rl X.K n F ρ st σ H → TkD X n E → w st Q E → t σ H (qT X n σ F ρ H Q)) : PWD X n e w := by
  refine ⟨fun wh pins s σ H F ρ st Q E I R tk hw => ?_⟩
  refine thn (h.run wh pins s σ H _ I (sim σ H F ρ st Q E R tk hw)) fun u s1 ⟨H', I', st', F', ρ', a, b, d⟩ => ?_
  exact ⟨st', H', F', ρ', I', a, b, d⟩
theorem pad_of {es : List Expr} {t : TA} {w : DA} (h : PA X es t)
    (sim : ∀ (σ : L2.St) (H F : Hp) (ρ : List Addr) (st : Dst) (Q : List W → Dst → Prop) (E : DX), Rl X.K n F ρ st σ H → TkD X n E → w st Q E → t σ H (qA X n σ F ρ H Q)) : PAD X n es w := by
  refine ⟨fun pos pins s σ H F ρ st Q E I R tk hw => ?_⟩
  refine thn (h.run pos pins s σ H _ I (sim σ H F ρ st Q E R tk hw)) fun u s1 ⟨v, H', I', r, w', st', F', ρ', a, b, c, d⟩ => ?_
  exact ⟨v, w', st', H', F', ρ', I', r, a, b, c, d⟩
theorem SP.spd {pins : List (Addr × Obj)} {F : Hp} {ρ : List Addr} {H : Hp} {D : DEnds} {f : Flow} {s' : Shared} (h : SP X pins (qD X n F ρ H D) f s') : SPD X n pins F ρ H D f s' := by
  cases f with
  | next => obtain ⟨σ', H', I, F', ρ', st', p, R, q⟩ := h; exact ⟨σ', H', F', ρ', st', I, p, R, q⟩
  | brk => obtain ⟨σ', H', I, F', ρ', st', p, R, q⟩ := h; exact ⟨σ', H', F', ρ', st', I, p, R, q⟩
  | cont => obtain ⟨σ', H', I, F', ρ', st', p, R, q⟩ := h; exact ⟨σ', H', F', ρ', st', I, p, R, q⟩
  | ret u => obtain ⟨v, σ', H', I, r, w', F', ρ', μ, p, p0, ok, rw, q⟩ := h; exact ⟨v, w', σ', H', F', ρ', μ, I, r, p, p0, ok, rw, q⟩
theorem psd_of {c : Stmt} {t : TS} {w : DS} (h : PS X c t)
    (sim : ∀ (σ : L2.St) (H F : Hp) (ρ : List Addr) (st : Dst) (D : DEnds), Rl X.K n F ρ st σ H → TkD X n D.ex → w D st → t (qD X n F ρ H D) σ H) : PSD X n c w := by
  refine ⟨fun pins s σ H F ρ st D I R tk hw => ?_⟩
  exact thn (h.run pins s σ H _ I (sim σ H F ρ st D R tk hw)) fun f s1 q => SP.spd q
theorem pssd_of {c : List Stmt} {t : TS} {w : DS} (h : PSs X c t)
    (sim : ∀ (σ : L2.St) (H F : Hp) (ρ : List Addr) (st : Dst) (D : DEnds), Rl X.K n F ρ st σ H → TkD X n D.ex → w D st → t (qD X n F ρ H D) σ H) : PSSD X n c w := by
  refine ⟨fun pins s σ H F ρ st D I R tk hw => ?_⟩
  exact thn (h.run pins s σ H _ I (sim σ H F ρ st D R tk hw)) fun f s1 q => SP.spd q
/-- the use of a part's reading within a rule's -/
theorem tE.use {w : DE} {σ : L2.St} {H F : Hp} {ρ : List Addr} {st : Dst} {E : DX} {DQ : DQ} {Q : VK} (R : Rl X.K n F ρ st σ H) (tk : TkD X n E) (h : w st DQ E)
    (k : ∀ v w' st' H' F' ρ', Post F ρ H F' ρ' H' → Rl X.K n F' ρ' st' σ H' → RepW X.K F' ρ' w' v → DQ w' st' → Q v H') : tE X n w σ H Q := ⟨F, ρ, st, _, E, R, tk, h, k⟩
theorem tT.use {w : DT} {σ : L2.St} {H F : Hp} {ρ : List Addr} {st : Dst} {E : DX} {DQ : Bool → Dst → Prop} {Q : Bool → Hp → Prop} (R : Rl X.K n F ρ st σ H) (tk : TkD X n E) (h : w st DQ E)
    (k : ∀ b st' H' F' ρ', Post F ρ H F' ρ' H' → Rl X.K n F' ρ' st' σ H' → DQ b st' → Q b H') : tT X n w σ H Q := ⟨F, ρ, st, _, E, R, tk, h, k⟩
theorem tA.use {w : DA} {σ : L2.St} {H F : Hp} {ρ : List Addr} {st : Dst} {E : DX} {DQ : List W → Dst → Prop} {Q : List V → Hp → Prop} (R : Rl X.K n F ρ st σ H) (tk : TkD X n E) (h : w st DQ E)
    (k : ∀ vs ws st' H' F' ρ', Post F ρ H F' ρ' H' → Rl X.K n F' ρ' st' σ H' → RepWL X.K F' ρ' ws vs → DQ ws st' → Q vs H') : tA X n w σ H Q := ⟨F, ρ, st, _, E, R, tk, h, k⟩
theorem tS.use {w : DS} {σ : L2.St} {H F : Hp} {ρ : List Addr} {st : Dst} {DD : DEnds} {D : Ends} (R : Rl X.K n F ρ st σ H) (tk : TkD X n DD.ex) (h : w DD st)
    (k1 : ∀ σ' H' F' ρ' st', Post F ρ H F' ρ' H' → Rl X.K n F' ρ' st' σ' H' → DD.nx st' → D.nx σ' H') (k2 : ∀ v w' H' F' ρ' μ, Post F ρ H F' ρ' H' → Post n.F n.ρ n.H F' ρ' H' → StOk X.K F' ρ' μ H' → RepW X.K F' ρ' w' v → DD.rt w' μ → D.rt v H')
    (k3 : ∀ σ' H' F' ρ' st', Post F ρ H F' ρ' H' → Rl X.K n F' ρ' st' σ' H' → DD.bk st' → D.bk σ' H') (k4 : ∀ σ' H' F' ρ' st', Post F ρ H F' ρ' H' → Rl X.K n F' ρ' st' σ' H' → DD.ct st' → D.ct σ' H') : tS X n w D σ H :=
  ⟨F, ρ, st, DD, R, tk, h, k1, k2, k3, k4⟩
end
end
end Dl
namespace Dl
open PySem PySem.Spec PyProof.Rows L2
variable [TheW]

inductive Grow : Hp → Hp → Hp → Hp → Prop
  | refl (F H : Hp) : Grow F H F H
  | lay {F H F' H' : Hp} {p : Addr} {o : HO} (hp : H p = none) (g : Grow (upd F p o) (upd H p o) F' H') : Grow F H F' H'
theorem Grow.one {F H : Hp} {p : Addr} {o : HO} (hp : H p = none) : Grow F H (upd F p o) (upd H p o) := .lay hp (.refl _ _)
theorem Grow.trans {F H F1 H1 F2 H2 : Hp} (a : Grow F H F1 H1) (b : Grow F1 H1 F2 H2) : Grow F H F2 H2 := by
  induction a with
  | refl => exact b
  | lay hp _ ih => exact .lay hp (ih b)
theorem Grow.sub {F H F1 H1 : Hp} (a : Grow F H F1 H1) (s : SubH F H) : SubH F F1 := by
  induction a with
  | refl => exact SubH.refl _
  | lay hp _ ih => exact (Post.data (ρ := []) s hp).le.trans (ih s.upd)
theorem Grow.in {F H F1 H1 : Hp} (a : Grow F H F1 H1) (s : SubH F H) : SubH F1 H1 := by
  induction a with
  | refl => exact s
  | lay hp _ ih => exact ih s.upd
theorem Rl.grow {K : PySem.W.Frag} {n : En} {F F1 : Hp} {ρ : List Addr} {st : Dst} {σ : L2.St} {H H1 : Hp} (R : Rl K n F ρ st σ H) (g : Grow F H F1 H1) : Post F ρ H F1 ρ H1 ∧ Rl K n F1 ρ st σ H1 := by
  induction g with
  | refl => exact ⟨Post.refl _ _ _, R⟩
  | @lay F H F' H' p o hp g ih =>
    have R1 := R.data (o := o) hp
    obtain ⟨p, R2⟩ := ih R1
    exact ⟨(Post.data R.ok.sub hp).trans p R1.ok.dom, R2⟩

section
variable {X : Cx} {n : En} {e a b : Expr} {pos : Pos}

def wVar (i : Nat) : DE := fun st Q _ => match st.δ[i]? with
  | some (some w) => Q w st
  | _ => False
theorem pd_var (i : Nat) {x : Str} {pos : Pos} (hN : X.N[i]? = some x := by rfl) (hv : Vis X.env.scope x := by first | exact Or.inl rfl | exact Or.inr (Or.inl rfl) | exact Or.inr (Or.inr rfl)) (hd : (x == ("__debug__" : Str)) = false := by decide)
    (hcd : (x == ("__classdict__" : Str)) = false := by decide) : PD X n (.Name x pos) (wVar i) := by
  refine pd_of (pe_var hN hv hd hcd) fun σ H F ρ st Q E R tk hw => ?_
  unfold wVar at hw
  split at hw
  · rename_i w e
    obtain ⟨v, e1, r⟩ := R.slots i w e
    exact ⟨v, e1, w, st, F, ρ, Post.refl _ _ _, R, r, hw⟩
  · exact hw.elim
def wC (d : D) : DE := fun st Q _ => Q (.d d) st
theorem pd_const {v : V} {d : D} (h : PE X e (tC v)) (r : ∀ F, Rep X.K F d v) : PD X n e (wC d) :=
  pd_of h fun σ H F ρ st Q E R tk hw => ⟨.d d, st, F, ρ, Post.refl _ _ _, R, r F, hw⟩
theorem pd_int {i j} : PD X n (.Constant (.int i) j pos) (wC (.int i)) := pd_const pe_int fun _ => rfl
theorem pd_bl {b j} : PD X n (.Constant (.bool b) j pos) (wC (.bl b)) := pd_const pe_bl fun _ => rfl
theorem pd_non {j} : PD X n (.Constant .none j pos) (wC .non) := pd_const pe_non fun _ => rfl
theorem pd_str (l : List Nat) {x : Str} {j} (h : x = mkS l := by decide +kernel) : PD X n (.Constant (.str x) j pos) (wC (.str l)) := pd_const pe_str fun _ => by subst h; rfl
/-- a global constant, of the written part -/
theorem pd_glob {x : Str} {v : V} {u : Value} {d : D} (hg : Gl X x) (hm : X.mg x = some u) (r : RelV v u) (rd : ∀ F, Rep X.K F d v) (hd : (x == ("__debug__" : Str)) = false := by decide) : PD X n (.Name x pos) (wC d) :=
  pd_const (pe_glob hg hm r hd) rd

abbrev DOp := D → D → (D → Prop) → Prop
def OpS (K : PySem.W.Frag) (r : R2) (o : DOp) : Prop := ∀ (F H : Hp) (x y : D) (v u : V) (Q : D → Prop) (k : VK), SubH F H → Rep K F x v → Rep K F y u → o x y Q → (∀ z H' d F', Grow F H F' H' → Rep K F' d z → Q d → k z H') → r v u H k
def wOp (o : DOp) (wa wb : DE) : DE := fun st Q E => wa st (fun a st1 => wb st1 (fun b st2 => match a, b with
  | .d x, .d y => o x y fun z => Q (.d z) st2
  | _, _ => False) E) E
theorem op_sim {r : R2} {o : DOp} {wa wb : DE} (s : OpS X.K r o) {σ : L2.St} {H F : Hp} {ρ : List Addr} {st : Dst} {Q : DQ} {E : DX} (R : Rl X.K n F ρ st σ H) (tk : TkD X n E) (h : wOp o wa wb st Q E) :
    tOp r (tE X n wa) (tE X n wb) σ H (qE X n σ F ρ H Q) := by
  refine tE.use R tk h fun v w1 st1 H1 F1 ρ1 p1 R1 r1 h1 => ?_
  refine tE.use R1 tk h1 fun u w2 st2 H2 F2 ρ2 p2 R2 r2 h2 => ?_
  cases w1 with
  | loc _ => exact h2.elim
  | scr _ => exact h2.elim
  | d x =>
    cases w2 with
    | loc _ => exact h2.elim
    | scr _ => exact h2.elim
    | d y =>
      refine s F2 H2 x y v u _ _ R2.ok.sub (Rep.sub p2.le x v r1) r2 h2 fun z H' d F' g rz q => ?_
      obtain ⟨p3, R3⟩ := R2.grow g
      exact ⟨.d d, st2, F', ρ2, (p1.trans p2 R1.ok.dom).trans p3 R2.ok.dom, R3, rz, q⟩
theorem pd_op {op : Operator} {r : R2} {o : DOp} {wa wb : DE} (ho : OpR X (binaryOp op) r) (s : OpS X.K r o) (ha : PD X n a wa) (hb : PD X n b wb) : PD X n (.BinOp a op b pos) (wOp o wa wb) :=
  pd_of (pe_op ho ha.pe hb.pe) fun _ _ _ _ _ _ _ R tk hw => op_sim s R tk hw
theorem pd_cmp {op : CmpOp} {r : R2} {o : DOp} {wa wb : DE} (ho : OpR X (compareOp op) r) (s : OpS X.K r o) (hm : behindInMarks op b = false) (ha : PD X n a wa) (hb : PD X n b wb) : PD X n (.Compare a [op] [b] pos) (wOp o wa wb) :=
  pd_of (pe_cmpR ho ha.pe hb.pe hm) fun _ _ _ _ _ _ _ R tk hw => op_sim s R tk hw
/-- two rules for one operator -/
theorem OpS.or {K : PySem.W.Frag} {r r' : R2} {o o' : DOp} (a : OpS K r o) (b : OpS K r' o') : OpS K (fun x y H Q => r x y H Q ∨ r' x y H Q) (fun x y Q => o x y Q ∨ o' x y Q) :=
  fun F H x y v u Q k s r1 r2 h c => h.elim (fun z => .inl (a F H x y v u Q k s r1 r2 z c)) (fun z => .inr (b F H x y v u Q k s r1 r2 z c))
theorem OpS.imp {K : PySem.W.Frag} {r : R2} {o o' : DOp} (a : OpS K r o) (h : ∀ x y Q, o' x y Q → o x y Q) : OpS K r o' :=
  fun F H x y v u Q k s r1 r2 z c => a F H x y v u Q k s r1 r2 (h x y Q z) c
/-- ints -/
def oI (g : Int → Int → D) (C : Int → Int → Prop) : DOp := fun x y Q => match x, y with
  | .int i, .int j => C i j ∧ Q (g i j)
  | _, _ => False
theorem ops_I {K : PySem.W.Frag} {C : Int → Int → Prop} {g : Int → Int → V} {g' : Int → Int → D} (hg : ∀ F i j, Rep K F (g' i j) (g i j)) : OpS K (rI C g) (oI g' C) := by
  intro F H x y v u Q k s r1 r2 h c
  cases x <;> first | exact (show False from h).elim | skip
  cases y <;> first | exact (show False from h).elim | skip
  obtain rfl := r1
  obtain rfl := r2
  exact ⟨_, _, rfl, rfl, h.1, c _ H _ F (.refl _ _) (hg F _ _) h.2⟩
def oI0 (g : Int → Int → D) : DOp := fun x y Q => match x, y with
  | .int i, .int j => Q (g i j)
  | _, _ => False
theorem ops_I0 {K : PySem.W.Frag} {g : Int → Int → V} {g' : Int → Int → D} (hg : ∀ F i j, Rep K F (g' i j) (g i j)) : OpS K (rI0 g) (oI0 g') := by
  intro F H x y v u Q k s r1 r2 h c
  cases x <;> first | exact (show False from h).elim | skip
  cases y <;> first | exact (show False from h).elim | skip
  obtain rfl := r1
  obtain rfl := r2
  exact ⟨_, _, rfl, rfl, c _ H _ F (.refl _ _) (hg F _ _) h⟩

/-- text + text -/
def oCatS : DOp := fun x y Q => match x, y with
  | .str a, .str b => a.length + b.length ≤ 16777216 ∧ Q (.str (a ++ b))
  | _, _ => False
theorem mkS_app (a b : List Nat) : mkS a ++ mkS b = mkS (a ++ b) := by
  show (⟨a.toArray ++ b.toArray⟩ : Str) = ⟨(a ++ b).toArray⟩
  simp
theorem mkS_len (a : List Nat) : (mkS a).length = a.length := by simp [mkS, Str.length]
theorem ops_catS {K : PySem.W.Frag} : OpS K (fun x y H Q => ∃ i j, x = .str i ∧ y = .str j ∧ i.length + j.length ≤ sizeLine ∧ Q (.str (i ++ j)) H) oCatS := by
  intro F H x y v u Q k s r1 r2 h c
  cases x <;> first | exact (show False from h).elim | skip
  cases y <;> first | exact (show False from h).elim | skip
  rename_i a b
  obtain rfl := r1
  obtain rfl := r2
  refine ⟨_, _, rfl, rfl, by rw [mkS_len, mkS_len, sizeLine_eq]; exact h.1, ?_⟩
  rw [mkS_app]
  exact c _ H (.str (a ++ b)) F (.refl _ _) rfl h.2
/-- list + list -/
def oCatL : DOp := fun x y Q => match x, y with
  | .lst a, .lst b => a.length + b.length ≤ 16777216 ∧ Q (.lst (a ++ b))
  | _, _ => False
theorem ops_catL {K : PySem.W.Frag} : OpS K rCat oCatL := by
  intro F H x y v u Q k s r1 r2 h c
  cases x <;> first | exact (show False from h).elim | skip
  cases y <;> first | exact (show False from h).elim | skip
  rename_i xs ys
  unfold Rep at r1 r2
  obtain ⟨a, vs, rfl, e1, q1⟩ := r1
  obtain ⟨b, us, rfl, e2, q2⟩ := r2
  refine ⟨a, b, vs, us, rfl, rfl, s _ _ e1, s _ _ e2, by rw [← q1.len, ← q2.len, sizeLine_eq]; exact h.1, fun p hp => ?_⟩
  have g : Grow F H (upd F p (.lst (vs ++ us))) (upd H p (.lst (vs ++ us))) := .one hp
  refine c _ _ (.lst (xs ++ ys)) _ g ?_ h.2
  unfold Rep
  exact ⟨p, _, rfl, upd_same, RepL.sub (g.sub s) _ _ (q1.app q2)⟩
/-- tuple + tuple -/
def oCatT : DOp := fun x y Q => match x, y with
  | .tup a, .tup b => a.length + b.length ≤ 16777216 ∧ Q (.tup (a ++ b))
  | _, _ => False
theorem RepL.isNil {K : PySem.W.Frag} {F : Hp} {ds : List D} (h : RepL K F ds []) : ds = [] := by
  have := h.len
  cases ds with
  | nil => rfl
  | cons _ _ => simp at this
theorem ops_catT {K : PySem.W.Frag} : OpS K (rCatA K) oCatT := by
  intro F H x y v u Q k s r1 r2 h c
  cases x <;> first | exact (show False from h).elim | skip
  cases y <;> first | exact (show False from h).elim | skip
  rename_i xs ys
  unfold Rep at r1 r2
  obtain ⟨a, vs, rfl, e1, q1⟩ := r1
  obtain ⟨b, us, rfl, e2, q2⟩ := r2
  refine ⟨a, b, vs, us, rfl, rfl, e1.sq s, e2.sq s, by rw [← q1.len, ← q2.len, sizeLine_eq]; exact h.1, fun z => ?_, fun z1 z2 => ?_, fun z1 z2 p hp => ?_⟩
  · subst z
    obtain rfl := q1.isNil
    exact c _ H (.tup ys) F (.refl _ _) (by unfold Rep; exact ⟨b, us, rfl, e2, q2⟩) h.2
  · subst z2
    obtain rfl := q2.isNil
    exact c _ H (.tup xs) F (.refl _ _) (by unfold Rep; exact ⟨a, vs, rfl, e1, q1⟩) (by have := h.2; rwa [List.append_nil] at this)
  · have g : Grow F H (upd F p (.tup (vs ++ us))) (upd H p (.tup (vs ++ us))) := .one hp
    refine c _ _ (.tup (xs ++ ys)) _ g ?_ h.2
    unfold Rep
    exact ⟨p, _, rfl, .inl upd_same, RepL.sub (g.sub s) _ _ (q1.app q2)⟩
abbrev oAddI : DOp := oI0 (fun i j => .int (i + j))
def oAdd : DOp := fun x y Q => match x, y with
  | .int i, .int j => Q (.int (i + j))
  | .str a, .str b => a.length + b.length ≤ 16777216 ∧ Q (.str (a ++ b))
  | .lst a, .lst b => a.length + b.length ≤ 16777216 ∧ Q (.lst (a ++ b))
  | .tup a, .tup b => a.length + b.length ≤ 16777216 ∧ Q (.tup (a ++ b))
  | _, _ => False
theorem oAdd_or (x y : D) (Q : D → Prop) (h : oAdd x y Q) : oAddI x y Q ∨ oCatS x y Q ∨ oCatL x y Q ∨ oCatT x y Q := by
  cases x <;> cases y <;> first | exact (show False from h).elim | skip
  · exact .inl h
  · exact .inr (.inl h)
  · exact .inr (.inr (.inr h))
  · exact .inr (.inr (.inl h))
theorem pd_add {wa wb : DE} (ha : PD X n a wa) (hb : PD X n b wb) : PD X n (.BinOp a .Add b pos) (wOp oAdd wa wb) :=
  pd_op (op_add.or (op_add_str.or (op_cat.or op_catA))) (((ops_I0 (g' := fun i j => .int (i + j)) fun _ _ _ => rfl).or (ops_catS.or (ops_catL.or ops_catT))).imp oAdd_or) ha hb
def oSub : DOp := oI0 (fun i j => .int (i - j))
theorem pd_sub {wa wb : DE} (ha : PD X n a wa) (hb : PD X n b wb) : PD X n (.BinOp a .Sub b pos) (wOp oSub wa wb) := pd_op op_sub (ops_I0 fun _ _ _ => rfl) ha hb
/-- products together below a million bits -/
def oMulI : DOp := oI (fun i j => .int (i * j)) CMulW
def oMod : DOp := oI (fun i j => .int (i % j)) fun _ j => 0 < j
theorem pd_mulI {wa wb : DE} (ha : PD X n a wa) (hb : PD X n b wb) : PD X n (.BinOp a .Mult b pos) (wOp oMulI wa wb) := pd_op op_mulW (ops_I fun _ _ _ => rfl) ha hb
theorem pd_mod {wa wb : DE} (ha : PD X n a wa) (hb : PD X n b wb) : PD X n (.BinOp a .Mod b pos) (wOp oMod wa wb) := pd_op op_mod (ops_I fun _ _ _ => rfl) ha hb
def oFdiv : DOp := oI (fun i j => .int (i / j)) CDivW
theorem pd_fdiv {wa wb : DE} (ha : PD X n a wa) (hb : PD X n b wb) : PD X n (.BinOp a .FloorDiv b pos) (wOp oFdiv wa wb) := pd_op op_fdivW (ops_I fun _ _ _ => rfl) ha hb
def oPow : DOp := oI (fun i j => .int (i ^ j.toNat)) CPow
theorem pd_pow {wa wb : DE} (ha : PD X n a wa) (hb : PD X n b wb) : PD X n (.BinOp a .Pow b pos) (wOp oPow wa wb) := pd_op op_pow (ops_I fun _ _ _ => rfl) ha hb
def oLt : DOp := oI0 fun i j => .bl (decide (i < j))
def oLe : DOp := oI0 fun i j => .bl (decide (i ≤ j))
def oGt : DOp := oI0 fun i j => .bl (decide (j < i))
def oGe : DOp := oI0 fun i j => .bl (decide (j ≤ i))
theorem ops_lt {K : PySem.W.Frag} : OpS K (rI0 fun i j => .bl (decide (i < j))) oLt := ops_I0 fun _ _ _ => rfl
theorem ops_le {K : PySem.W.Frag} : OpS K (rI0 fun i j => .bl (decide (i ≤ j))) oLe := ops_I0 fun _ _ _ => rfl
theorem ops_gt {K : PySem.W.Frag} : OpS K (rI0 fun i j => .bl (decide (j < i))) oGt := ops_I0 fun _ _ _ => rfl
theorem ops_ge {K : PySem.W.Frag} : OpS K (rI0 fun i j => .bl (decide (j ≤ i))) oGe := ops_I0 fun _ _ _ => rfl
theorem pd_lt {wa wb : DE} (ha : PD X n a wa) (hb : PD X n b wb) : PD X n (.Compare a [.Lt] [b] pos) (wOp oLt wa wb) := pd_cmp op_lt ops_lt (nomark _) ha hb
theorem pd_le {wa wb : DE} (ha : PD X n a wa) (hb : PD X n b wb) : PD X n (.Compare a [.LtE] [b] pos) (wOp oLe wa wb) := pd_cmp op_le ops_le (nomark _) ha hb
theorem pd_gt {wa wb : DE} (ha : PD X n a wa) (hb : PD X n b wb) : PD X n (.Compare a [.Gt] [b] pos) (wOp oGt wa wb) := pd_cmp op_gt ops_gt (nomark _) ha hb
theorem pd_ge {wa wb : DE} (ha : PD X n a wa) (hb : PD X n b wb) : PD X n (.Compare a [.GtE] [b] pos) (wOp oGe wa wb) := pd_cmp op_ge ops_ge (nomark _) ha hb
mutual
def pyD : D → Option PyData
  | .non => some .none
  | .bl b => some (.bool b)
  | .int i => some (.int i)
  | .str x => some (.str (mkS x))
  | .tup xs => (pyL xs).map .tuple
  | .lst xs => (pyL xs).map .list
  | .dic _ _ => none
  | .ins _ _ _ => none
  | .ty _ => none
  | .cls _ => none
  | .exc _ _ _ => none
  | .lamR _ _ => none
  | .lam _ _ _ => none
def pyL : List D → Option (List PyData)
  | [] => some []
  | d :: ds => match pyD d, pyL ds with
    | some x, some xs => some (x :: xs)
    | _, _ => none
end
mutual
theorem rep_dp {K : PySem.W.Frag} {F H : Hp} (s : SubH F H) : ∀ (d : D) (p : PyData) (v : V), pyD d = some p → Rep K F d v → Dp K H v p
  | .non, p, v, e, r => by
    unfold pyD at e; cases e
    obtain rfl := r
    exact .non
  | .bl b, p, v, e, r => by
    unfold pyD at e; cases e
    obtain rfl := r
    exact .bl b
  | .int i, p, v, e, r => by
    unfold pyD at e; cases e
    obtain rfl := r
    exact .int i
  | .str x, p, v, e, r => by
    unfold pyD at e; cases e
    obtain rfl := r
    exact .str _
  | .tup xs, p, v, e, r => by
    unfold pyD at e
    cases q : pyL xs with
    | none => rw [q] at e; cases e
    | some ps =>
      rw [q] at e; cases e
      unfold Rep at r
      obtain ⟨a, vs, rfl, h1, h2⟩ := r
      exact .tup (h1.sq s) (rep_dpL s xs ps vs q h2)
  | .lst xs, p, v, e, r => by
    unfold pyD at e
    cases q : pyL xs with
    | none => rw [q] at e; cases e
    | some ps =>
      rw [q] at e; cases e
      unfold Rep at r
      obtain ⟨a, vs, rfl, h1, h2⟩ := r
      exact .lst (.of (s _ _ h1)) (rep_dpL s xs ps vs q h2)
  | .dic _ _, p, v, e, r => by unfold pyD at e; cases e
  | .ins _ _ _, p, v, e, r => by unfold pyD at e; cases e
  | .ty _, p, v, e, r => by unfold pyD at e; cases e
  | .cls _, p, v, e, r => by unfold pyD at e; cases e
  | .exc _ _ _, p, v, e, r => by unfold pyD at e; cases e
  | .lamR _ _, p, v, e, r => by unfold pyD at e; cases e
  | .lam _ _ _, p, v, e, r => by unfold pyD at e; cases e
theorem rep_dpL {K : PySem.W.Frag} {F H : Hp} (s : SubH F H) : ∀ (ds : List D) (ps : List PyData) (vs : List V), pyL ds = some ps → RepL K F ds vs → DpAll K H vs ps
  | [], ps, vs, e, r => by
    unfold pyL at e; cases e
    unfold RepL at r; subst r
    exact .nil
  | d :: ds, ps, vs, e, r => by
    unfold pyL at e
    cases q : pyD d with
    | none => rw [q] at e; cases e
    | some p =>
      cases q2 : pyL ds with
      | none => rw [q, q2] at e; cases e
      | some ps' =>
        rw [q, q2] at e; cases e
        unfold RepL at r
        obtain ⟨v, t, rfl, h1, h2⟩ := r
        exact .cons (rep_dp s d p v q h1) (rep_dpL s ds ps' t q2 h2)
end
structure oEq (x y : D) (Q : D → Prop) : Prop where
  ex : ∃ p q, pyD x = some p ∧ pyD y = some q ∧ SeqAt.shaped p = true ∧ SeqAt.shaped q = true ∧ Q (.bl (PyData.eqv p q))
structure oNe (x y : D) (Q : D → Prop) : Prop where
  ex : ∃ p q, pyD x = some p ∧ pyD y = some q ∧ SeqAt.shaped p = true ∧ SeqAt.shaped q = true ∧ Q (.bl (!PyData.eqv p q))
theorem ops_eq {K : PySem.W.Frag} : OpS K (rEqD K) oEq := by
  intro F H x y v u Q k s r1 r2 h c
  obtain ⟨p, q, e1, e2, s1, s2, z⟩ := h.ex
  exact ⟨p, q, rep_dp s x p v e1 r1, rep_dp s y q u e2 r2, s1, s2, c _ H (.bl _) F (.refl _ _) rfl z⟩
theorem ops_ne {K : PySem.W.Frag} : OpS K (rNeD K) oNe := by
  intro F H x y v u Q k s r1 r2 h c
  obtain ⟨p, q, e1, e2, s1, s2, z⟩ := h.ex
  exact ⟨p, q, rep_dp s x p v e1 r1, rep_dp s y q u e2 r2, s1, s2, c _ H (.bl _) F (.refl _ _) rfl z⟩
theorem pd_eq {wa wb : DE} {k : Nat} (hr : Room k X.A) (ha : PD X n a wa) (hb : PD X n b wb) : PD X n (.Compare a [.Eq] [b] pos) (wOp oEq wa wb) := pd_cmp (op_eqD hr.units) ops_eq (nomark _) ha hb
theorem pd_ne {wa wb : DE} {k : Nat} (hr : Room k X.A) (ha : PD X n a wa) (hb : PD X n b wb) : PD X n (.Compare a [.NotEq] [b] pos) (wOp oNe wa wb) := pd_cmp (op_neD hr.units) ops_ne (nomark _) ha hb
end
end Dl
namespace Dl
open PySem PySem.Spec PyProof.Rows L2
variable [TheW]
section
variable {X : Cx} {K : PySem.W.Frag} {n : En} {e a b : Expr} {es : List Expr} {pos : Pos}

def wNil : DA := fun st Q _ => Q [] st
def wCons (wa : DE) (wr : DA) : DA := fun st Q E => wa st (fun w st1 => wr st1 (fun ws st2 => Q (w :: ws) st2) E) E
theorem pad_nil : PAD X n [] wNil := pad_of pa_nil fun σ H F ρ st Q E R tk hw => ⟨[], st, F, ρ, Post.refl _ _ _, R, rfl, hw⟩
theorem pad_cons {wa : DE} {wr : DA} (ha : PD X n e wa) (hr : PAD X n es wr) (hs : starEach (e :: es) X.env = (false, eval e X.env) :: starEach es X.env := by rfl) : PAD X n (e :: es) (wCons wa wr) :=
  pad_of (pa_cons ha.pe hr.pa hs) fun σ H F ρ st Q E R tk hw => by
    refine tE.use R tk hw fun v w1 st1 H1 F1 ρ1 p1 R1 r1 h1 => ?_
    refine tA.use R1 tk h1 fun vs ws st2 H2 F2 ρ2 p2 R2 r2 h2 => ?_
    exact ⟨w1 :: ws, st2, F2, ρ2, p1.trans p2 R1.ok.dom, R2, ⟨v, vs, rfl, r1.post p2, r2⟩, h2⟩
/-- all of them data -/
def datas : List W → Option (List D)
  | [] => some []
  | .d x :: ws => match datas ws with
    | some xs => some (x :: xs)
    | none => none
  | .loc _ :: _ => none
  | .scr _ :: _ => none
theorem datas_map : ∀ {ws : List W} {xs : List D}, datas ws = some xs → ws = xs.map W.d
  | [], xs, h => by cases h; rfl
  | .d x :: ws, xs, h => by
    unfold datas at h
    cases e : datas ws with
    | none => rw [e] at h; cases h
    | some ys =>
      rw [e] at h; cases h
      rw [datas_map e]; rfl
  | .loc _ :: _, _, h => by cases h
  | .scr _ :: _, _, h => by cases h
theorem datas_of : ∀ (xs : List D), datas (xs.map W.d) = some xs
  | [] => rfl
  | x :: xs => by
    show datas (W.d x :: xs.map W.d) = _
    unfold datas
    rw [datas_of xs]
def wTup (wr : DA) : DE := fun st Q E => wr st (fun ws st1 => match datas ws with
  | some xs => xs.length ≤ 16777216 ∧ Q (.d (.tup xs)) st1
  | none => False) E
def wLst (wr : DA) : DE := fun st Q E => wr st (fun ws st1 => match datas ws with
  | some xs => xs.length ≤ 16777216 ∧ Q (.d (.lst xs)) st1
  | none => False) E
theorem pd_tup {k : Nat} {wr : DA} (h : PAD X n es wr) : PD X n (.Tuple es k pos) (wTup wr) :=
  pd_of (pe_tup h.pa) fun σ H F ρ st Q E R tk hw => by
    refine tA.use R tk hw fun vs ws st1 H1 F1 ρ1 p1 R1 r1 h1 => ?_
    cases e : datas ws with
    | none => rw [e] at h1; exact h1.elim
    | some xs =>
      rw [e] at h1
      rw [datas_map e] at r1
      have q := r1.ofD
      refine ⟨by rw [← q.len, sizeLine_eq]; exact h1.1, fun p hp => ?_⟩
      have g : Grow F1 H1 (upd F1 p (.tup vs)) (upd H1 p (.tup vs)) := .one hp
      obtain ⟨p2, R2⟩ := R1.grow g
      refine ⟨.d (.tup xs), st1, _, _, p1.trans p2 R1.ok.dom, R2, ?_, h1.2⟩
      show Rep _ _ (.tup xs) _
      unfold Rep
      exact ⟨p, vs, rfl, .inl upd_same, RepL.sub p2.le _ _ q⟩
theorem pd_lst {wr : DA} (h : PAD X n es wr) : PD X n (.List es pos) (wLst wr) :=
  pd_of (pe_lst h.pa) fun σ H F ρ st Q E R tk hw => by
    refine tA.use R tk hw fun vs ws st1 H1 F1 ρ1 p1 R1 r1 h1 => ?_
    cases e : datas ws with
    | none => rw [e] at h1; exact h1.elim
    | some xs =>
      rw [e] at h1
      rw [datas_map e] at r1
      have q := r1.ofD
      refine ⟨by rw [← q.len, sizeLine_eq]; exact h1.1, fun p hp => ?_⟩
      have g : Grow F1 H1 (upd F1 p (.lst vs)) (upd H1 p (.lst vs)) := .one hp
      obtain ⟨p2, R2⟩ := R1.grow g
      refine ⟨.d (.lst xs), st1, _, _, p1.trans p2 R1.ok.dom, R2, ?_, h1.2⟩
      show Rep _ _ (.lst xs) _
      unfold Rep
      exact ⟨p, vs, rfl, upd_same, RepL.sub p2.le _ _ q⟩

abbrev DCall := List D → (D → Prop) → Prop
def CallS (K : PySem.W.Frag) (r : List V → Hp → VK → Prop) (o : DCall) : Prop := ∀ (F H : Hp) (xs : List D) (vs : List V) (Q : D → Prop) (k : VK), SubH F H → RepL K F xs vs → o xs Q → (∀ z H' d F', Grow F H F' H' → Rep K F' d z → Q d → k z H') → r vs H k
def wCall (o : DCall) (wr : DA) : DE := fun st Q E => wr st (fun ws st1 => match datas ws with
  | some xs => o xs fun z => Q (.d z) st1
  | none => False) E
theorem call_sim {r : List V → Hp → VK → Prop} {o : DCall} {wr : DA} (s : CallS X.K r o) {σ : L2.St} {H F : Hp} {ρ : List Addr} {st : Dst} {Q : DQ} {E : DX} (R : Rl X.K n F ρ st σ H) (tk : TkD X n E) (h : wCall o wr st Q E) :
    tCB r (tA X n wr) σ H (qE X n σ F ρ H Q) := by
  refine tA.use R tk h fun vs ws st1 H1 F1 ρ1 p1 R1 r1 h1 => ?_
  cases e : datas ws with
  | none => rw [e] at h1; exact h1.elim
  | some xs =>
    rw [e] at h1
    rw [datas_map e] at r1
    refine s F1 H1 xs vs _ _ R1.ok.sub r1.ofD h1 fun z H' d F' g rz q => ?_
    obtain ⟨p3, R3⟩ := R1.grow g
    exact ⟨.d d, st1, F', ρ1, p1.trans p3 R1.ok.dom, R3, rz, q⟩
theorem CallS.or {K : PySem.W.Frag} {r r' : List V → Hp → VK → Prop} {o o' : DCall} (a : CallS K r o) (b : CallS K r' o') : CallS K (fun x H Q => r x H Q ∨ r' x H Q) (fun x Q => o x Q ∨ o' x Q) :=
  fun F H xs vs Q k s r1 h c => h.elim (fun z => .inl (a F H xs vs Q k s r1 z c)) (fun z => .inr (b F H xs vs Q k s r1 z c))
theorem CallS.imp {K : PySem.W.Frag} {r : List V → Hp → VK → Prop} {o o' : DCall} (a : CallS K r o) (h : ∀ x Q, o' x Q → o x Q) : CallS K r o' :=
  fun F H xs vs Q k s r1 z c => a F H xs vs Q k s r1 (h xs Q z) c
theorem callR_or {f : Value} {r r' : List V → Hp → VK → Prop} (h : CallR X f r) (h' : CallR X f r') : CallR X f (fun x H Q => r x H Q ∨ r' x H Q) := by
  intro pins s σ H xs us Q I rx q
  rcases q with q | q
  · exact h pins s σ H xs us Q I rx q
  · exact h' pins s σ H xs us Q I rx q
theorem pd_callB {x : Str} {p : Pos} {id : String} {r : List V → Hp → VK → Prop} {o : DCall} {wr : DA} (hc : CallR X (.builtin id) r) (s : CallS X.K r o) (hg : Gl X x) (hm : X.mg x = none) (hv : bootBuiltins x = some (.builtin id)) (ha : PAD X n (e :: es) wr)
    (hn : x ≠ "__name__" := by decide) (hdb : (x == ("__debug__" : Str)) = false := by decide)
    (he : starEach (e :: es) X.env = (false, eval e X.env) :: starEach es X.env := by rfl) (hpl : (backTo pos (starEach es X.env)).any (·.1) = false := by rfl) : PD X n (.Call (.Name x p) (e :: es) [] pos) (wCall o wr) :=
  pd_of (pe_callB hc hg hm hv ha.pa hn hdb he hpl) fun _ _ _ _ _ _ _ R tk hw => call_sim s R tk hw
theorem pd_callTy {x : Str} {p : Pos} {T : String} {r : List V → Hp → VK → Prop} {o : DCall} {wr : DA} (hc : CallR X (.type T) r) (s : CallS X.K r o) (hg : Gl X x) (hm : X.mg x = none) (hv : bootBuiltins x = some (.type T)) (ha : PAD X n (e :: es) wr)
    (hn : x ≠ "__name__" := by decide) (hdb : (x == ("__debug__" : Str)) = false := by decide)
    (he : starEach (e :: es) X.env = (false, eval e X.env) :: starEach es X.env := by rfl) (hpl : (backTo pos (starEach es X.env)).any (·.1) = false := by rfl) : PD X n (.Call (.Name x p) (e :: es) [] pos) (wCall o wr) :=
  pd_of (pe_callTy hc hg hm hv ha.pa hn hdb he hpl) fun _ _ _ _ _ _ _ R tk hw => call_sim s R tk hw
/-- len -/
def oLen : DCall := fun xs Q => match xs with
  | [.lst ys] => Q (.int ys.length)
  | [.tup ys] => Q (.int ys.length)
  | [.str x] => x.length ≤ 16777216 ∧ Q (.int x.length)
  | _ => False
theorem repL1 {K : PySem.W.Frag} {F : Hp} {d : D} {vs : List V} (h : RepL K F [d] vs) : ∃ v, vs = [v] ∧ Rep K F d v := by
  unfold RepL at h
  obtain ⟨v, r, rfl, q, t⟩ := h
  unfold RepL at t; subst t
  exact ⟨v, rfl, q⟩
theorem repL2 {K : PySem.W.Frag} {F : Hp} {d e : D} {vs : List V} (h : RepL K F [d, e] vs) : ∃ v u, vs = [v, u] ∧ Rep K F d v ∧ Rep K F e u := by
  unfold RepL at h
  obtain ⟨v, r, rfl, q, t⟩ := h
  obtain ⟨u, rfl, q2⟩ := repL1 t
  exact ⟨v, u, rfl, q, q2⟩
def rLen2 (K : PySem.W.Frag) : List V → Hp → VK → Prop := fun xs H Q => (∃ p ys, xs = [.ref p] ∧ (SqL K H p ys ∨ SqT K H p ys) ∧ Q (.int ys.length) H) ∨ (∃ z, xs = [.str z] ∧ z.length ≤ sizeLine ∧ Q (.int z.length) H)
theorem call_len2 : CallR X (.builtin "len") (rLen2 X.K) := callR_or call_len_seq call_len_str
theorem calls_len {K : PySem.W.Frag} : CallS K (rLen2 K) oLen := by
  intro F H xs vs Q k s r h c
  unfold oLen at h
  split at h
  · obtain ⟨v, rfl, q⟩ := repL1 r
    unfold Rep at q
    obtain ⟨a, us, rfl, e1, q⟩ := q
    refine .inl ⟨a, us, rfl, .inl (.of (s _ _ e1)), ?_⟩
    rw [← q.len]
    exact c _ H (.int _) F (.refl _ _) rfl h
  · obtain ⟨v, rfl, q⟩ := repL1 r
    unfold Rep at q
    obtain ⟨a, us, rfl, e1, q⟩ := q
    refine .inl ⟨a, us, rfl, .inr (e1.sq s), ?_⟩
    rw [← q.len]
    exact c _ H (.int _) F (.refl _ _) rfl h
  · obtain ⟨v, rfl, q⟩ := repL1 r
    obtain rfl := q
    refine .inr ⟨_, rfl, by rw [mkS_len, sizeLine_eq]; exact h.1, ?_⟩
    rw [mkS_len]
    exact c _ H (.int _) F (.refl _ _) rfl h.2
  · exact h.elim
/-- int of an int -/
def oIntI : DCall := fun xs Q => match xs with
  | [.int i] => Q (.int i)
  | [.bl b] => Q (.int (if b then 1 else 0))
  | _ => False
theorem calls_int {K : PySem.W.Frag} : CallS K (fun xs H Q => (∃ i, xs = [.int i] ∧ Q (.int i) H) ∨ ∃ k, xs = [.bl k] ∧ Q (.int (if k then 1 else 0)) H) oIntI := by
  intro F H xs vs Q k s r h c
  unfold oIntI at h
  split at h
  · obtain ⟨v, rfl, q⟩ := repL1 r
    obtain rfl := q
    exact .inl ⟨_, rfl, c _ H (.int _) F (.refl _ _) rfl h⟩
  · obtain ⟨v, rfl, q⟩ := repL1 r
    obtain rfl := q
    exact .inr ⟨_, rfl, c _ H (.int _) F (.refl _ _) rfl h⟩
  · exact h.elim
/-- all, any of a list of bools -/
def bools : List D → Option (List Bool)
  | [] => some []
  | .bl b :: xs => match bools xs with
    | some bs => some (b :: bs)
    | none => none
  | _ :: _ => none
theorem bools_rep {K : PySem.W.Frag} {F : Hp} : ∀ {xs : List D} {bs : List Bool} {vs : List V}, bools xs = some bs → RepL K F xs vs → vs = bs.map V.bl
  | [], bs, vs, e, r => by cases e; unfold RepL at r; exact r
  | .bl b :: xs, bs, vs, e, r => by
    unfold bools at e
    cases q : bools xs with
    | none => rw [q] at e; cases e
    | some cs =>
      rw [q] at e; cases e
      unfold RepL at r
      obtain ⟨v, t, rfl, h1, h2⟩ := r
      obtain rfl := h1
      rw [bools_rep q h2]; rfl
  | .non :: _, _, _, e, _ => by cases e
  | .int _ :: _, _, _, e, _ => by cases e
  | .str _ :: _, _, _, e, _ => by cases e
  | .tup _ :: _, _, _, e, _ => by cases e
  | .lst _ :: _, _, _, e, _ => by cases e
  | .dic _ _ :: _, _, _, e, _ => by cases e
  | .ins _ _ _ :: _, _, _, e, _ => by cases e
  | .ty _ :: _, _, _, e, _ => by cases e
  | .cls _ :: _, _, _, e, _ => by cases e
  | .exc _ _ _ :: _, _, _, e, _ => by cases e
  | .lamR _ _ :: _, _, _, e, _ => by cases e
  | .lam _ _ _ :: _, _, _, e, _ => by cases e
def oAll : DCall := fun xs Q => match xs with
  | [.lst ys] => ∃ bs, bools ys = some bs ∧ Q (.bl (bs.all id))
  | _ => False
def oAny : DCall := fun xs Q => match xs with
  | [.lst ys] => ∃ bs, bools ys = some bs ∧ Q (.bl (bs.any id))
  | _ => False
theorem calls_all {K : PySem.W.Frag} : CallS K (rAll K) oAll := by
  intro F H xs vs Q k s r h c
  unfold oAll at h
  split at h
  · obtain ⟨v, rfl, q⟩ := repL1 r
    unfold Rep at q
    obtain ⟨a, us, rfl, e1, q⟩ := q
    obtain ⟨bs, e2, z⟩ := h
    have e3 := bools_rep e2 q
    subst e3
    exact ⟨a, bs, rfl, .of (s _ _ e1), c _ H (.bl _) F (.refl _ _) rfl z⟩
  · exact h.elim
theorem calls_any {K : PySem.W.Frag} : CallS K (rAny K) oAny := by
  intro F H xs vs Q k s r h c
  unfold oAny at h
  split at h
  · obtain ⟨v, rfl, q⟩ := repL1 r
    unfold Rep at q
    obtain ⟨a, us, rfl, e1, q⟩ := q
    obtain ⟨bs, e2, z⟩ := h
    have e3 := bools_rep e2 q
    subst e3
    exact ⟨a, bs, rfl, .of (s _ _ e1), c _ H (.bl _) F (.refl _ _) rfl z⟩
  · exact h.elim
/-- list(xs), list(t) -/
def oListOf : DCall := fun xs Q => match xs with
  | [.lst ys] => Q (.lst ys)
  | [.tup ys] => Q (.lst ys)
  | _ => False
theorem calls_listOf {K : PySem.W.Frag} : CallS K (fun xs H Q => ∃ p ys, xs = [.ref p] ∧ (SqL K H p ys ∨ SqT K H p ys) ∧ ∀ l, H l = none → Q (.ref l) (upd H l (.lst ys))) oListOf := by
  intro F H xs vs Q k s r h c
  have go : ∀ (ys : List D) (us : List V) (l : Addr), RepL K F ys us → H l = none → Q (.lst ys) → k (.ref l) (upd H l (.lst us)) := fun ys us l q hl z => by
    have g : Grow F H (upd F l (.lst us)) (upd H l (.lst us)) := .one hl
    refine c _ _ (.lst ys) _ g ?_ z
    unfold Rep
    exact ⟨l, us, rfl, upd_same, RepL.sub (g.sub s) _ _ q⟩
  unfold oListOf at h
  split at h
  · obtain ⟨v, rfl, q⟩ := repL1 r
    unfold Rep at q
    obtain ⟨a, us, rfl, e1, q⟩ := q
    exact ⟨a, us, rfl, .inl (.of (s _ _ e1)), fun l hl => go _ _ l q hl h⟩
  · obtain ⟨v, rfl, q⟩ := repL1 r
    unfold Rep at q
    obtain ⟨a, us, rfl, e1, q⟩ := q
    exact ⟨a, us, rfl, .inr (e1.sq s), fun l hl => go _ _ l q hl h⟩
  · exact h.elim
/-- tuple(xs), tuple(t) -/
def oTupOf : DCall := fun xs Q => match xs with
  | [.lst ys] => Q (.tup ys)
  | [.tup ys] => Q (.tup ys)
  | _ => False
theorem calls_tupOf {K : PySem.W.Frag} : CallS K (fun xs H Q => ∃ p ys, xs = [.ref p] ∧ ((SqL K H p ys ∧ ∀ l, H l = none → Q (.ref l) (upd H l (.tup ys))) ∨ (SqT K H p ys ∧ Q (.ref p) H))) oTupOf := by
  intro F H xs vs Q k s r h c
  unfold oTupOf at h
  split at h
  · obtain ⟨v, rfl, q⟩ := repL1 r
    unfold Rep at q
    obtain ⟨a, us, rfl, e1, q⟩ := q
    refine ⟨a, us, rfl, .inl ⟨.of (s _ _ e1), fun l hl => ?_⟩⟩
    have g : Grow F H (upd F l (.tup us)) (upd H l (.tup us)) := .one hl
    refine c _ _ (.tup _) _ g ?_ h
    unfold Rep
    exact ⟨l, us, rfl, .inl upd_same, RepL.sub (g.sub s) _ _ q⟩
  · obtain ⟨v, rfl, q⟩ := repL1 r
    unfold Rep at q
    obtain ⟨a, us, rfl, e1, q⟩ := q
    refine ⟨a, us, rfl, .inr ⟨e1.sq s, c _ H (.tup _) F (.refl _ _) ?_ h⟩⟩
    unfold Rep
    exact ⟨a, us, rfl, e1, q⟩
  · exact h.elim

/-- the type of a value -/
inductive Ty where
  | ty (n : String) | own (c : Str)
  deriving DecidableEq
def tyOf : D → Option Ty
  | .non => some (.ty "NoneType")
  | .bl _ => some (.ty "bool")
  | .int _ => some (.ty "int")
  | .str _ => some (.ty "str")
  | .tup _ => some (.ty "tuple")
  | .lst _ => some (.ty "list")
  | .dic _ _ => none
  | .ins c _ _ => some (.own c)
  | .ty _ => none
  | .cls _ => none
  | .exc _ _ _ => none
  | .lamR _ _ => none
  | .lam _ _ _ => none
def Ty.v (K : PySem.W.Frag) : Ty → Value
  | .ty n => .type n
  | .own c => .ref (He.ga K c)
/-- what isinstance asks of an own class beside Cls -/
structure ClsI (K : PySem.W.Frag) (c : Str) : Prop where
  cl : Cls K (He.ga K c)
  ha : PySem.W.findIn K (.ref (He.ga K c)) "__class__" = some (some (.builtin "object.__class__"))
  hn : PySem.W.specialIn K (.builtin "object.__class__") "__get__" = some (some (.builtin "getset_descriptor.__get__"))
  htk : PySem.W.takesIn K (.builtin "object.__class__") = some true
  hm : PySem.W.mroIn K (He.ga K c) (.type "object") = some true
def TyGood (K : PySem.W.Frag) : Ty → Prop
  | .ty _ => True
  | .own c => ClsI K c
theorem tyX_of {K : PySem.W.Frag} {F H : Hp} {d : D} {v : V} {t : Ty} (s : SubH F H) (r : Rep K F d v) (e : tyOf d = some t) (g : TyGood K t) : TyX K H v (t.v K) := by
  cases d with
  | non => cases e; obtain rfl := r; exact .base .non
  | bl b => cases e; obtain rfl := r; exact .base (.bl b)
  | int i => cases e; obtain rfl := r; exact .base (.int i)
  | str x => cases e; obtain rfl := r; exact .base (.str _)
  | tup xs =>
    cases e
    unfold Rep at r
    obtain ⟨a, vs, rfl, h, _⟩ := r
    rcases h with h | ⟨o, its, m, h, hc, _⟩
    · exact .base (.tup (s _ _ h))
    · exact .kTuple h hc
  | lst xs =>
    cases e
    unfold Rep at r
    obtain ⟨a, vs, rfl, h, _⟩ := r
    exact .base (.lst (s _ _ h))
  | dic _ _ => cases e
  | ins c ks vs =>
    cases e
    unfold Rep at r
    obtain ⟨a, dx, fs, rfl, h, _⟩ := r
    have g : ClsI K c := g
    exact .base (.ins (s _ _ h) g.cl g.ha g.hn g.htk g.hm)
  | ty _ => cases e
  | cls _ => cases e
  | exc _ _ _ => cases e
  | lamR _ _ => cases e
  | lam _ _ _ => cases e
/-- classes as values -/
def clsOf : D → Option Ty
  | .ty n => some (.ty n)
  | .cls c => some (.own c)
  | _ => none
theorem clsV_of {K : PySem.W.Frag} {F : Hp} {d : D} {v : V} {t : Ty} (r : Rep K F d v) (e : clsOf d = some t) : ClsV v (t.v K) := by
  cases d <;> first | (cases e; done) | skip
  · cases e; obtain rfl := r; exact .ty _
  · cases e; obtain rfl := r; exact .own _
def clssOf : List D → Option (List Ty)
  | [] => some []
  | d :: ds => match clsOf d, clssOf ds with
    | some t, some ts => some (t :: ts)
    | _, _ => none
theorem clssV_of {K : PySem.W.Frag} {F : Hp} : ∀ {ds : List D} {vs : List V} {ts : List Ty}, RepL K F ds vs → clssOf ds = some ts → Paired ClsV vs (ts.map (Ty.v K))
  | [], vs, ts, r, e => by cases e; unfold RepL at r; subst r; exact .nil
  | d :: ds, vs, ts, r, e => by
    unfold clssOf at e
    cases h1 : clsOf d with
    | none => rw [h1] at e; cases e
    | some t =>
      cases h2 : clssOf ds with
      | none => rw [h1, h2] at e; cases e
      | some us =>
        rw [h1, h2] at e; cases e
        unfold RepL at r
        obtain ⟨v, rr, rfl, q, t'⟩ := r
        exact .cons (clsV_of q h1) (clssV_of t' h2)
/-- isinstance(x, c) with the answers that the text's classes give (ans: by facts of the head) -/
def oIsiB (ans : Ty → Ty → Option Bool) : DCall := fun xs Q => match xs with
  | [x, .tup cs] => ∃ t ts b, tyOf x = some t ∧ clssOf cs = some ts ∧ ts ≠ [] ∧ ts.foldr (fun c r => match ans t c, r with
      | some a, some b => some (a || b)
      | _, _ => none) (some false) = some b ∧ Q (.bl b)
  | [x, c] => ∃ t u b, tyOf x = some t ∧ clsOf c = some u ∧ ans t u = some b ∧ Q (.bl b)
  | _ => False
structure oIsi (ans : Ty → Ty → Option Bool) (xs : List D) (Q : D → Prop) : Prop where
  ex : oIsiB ans xs Q
/-- the answers are the written part's -/
structure AnsOk (K : PySem.W.Frag) (ans : Ty → Ty → Option Bool) : Prop where
  one : ∀ t c b, ans t c = some b → PySem.W.kitOne K (t.v K) (c.v K) = some b
  good : ∀ t c b, ans t c = some b → TyGood K t
def rIsi2 (K : PySem.W.Frag) : List V → Hp → VK → Prop := fun xs H Q => rIsi K xs H Q ∨ rIsiT K xs H Q ∨ rIsiK K xs H Q
theorem call_isi2 : CallR X (.builtin "isinstance") (rIsi2 X.K) := callR_or call_isi (callR_or call_isiT call_isiK)
theorem kit_any {K : PySem.W.Frag} {ans : Ty → Ty → Option Bool} (A : AnsOk K ans) {t : Ty} : ∀ {ts : List Ty} {b : Bool}, ts.foldr (fun c r => match ans t c, r with
      | some a, some b => some (a || b)
      | _, _ => none) (some false) = some b → PySem.W.kitAny K (t.v K) (ts.map (Ty.v K)) = some b
  | [], b, e => by cases e; rfl
  | c :: ts, b, e => by
    rw [List.foldr_cons] at e
    cases h1 : ans t c with
    | none => rw [h1] at e; cases e
    | some a =>
      cases h2 : ts.foldr (fun c r => match ans t c, r with
        | some a, some b => some (a || b)
        | _, _ => none) (some false) with
      | none => rw [h1, h2] at e; cases e
      | some b' =>
        rw [h1, h2] at e
        have e : some (a || b') = some b := e
        cases e
        refine kitAny_cons (A.one t c a h1) (fun z => ?_) (fun z => by rw [z]; rfl)
        subst z
        exact kit_any A h2
theorem calls_isi {K : PySem.W.Frag} {ans : Ty → Ty → Option Bool} (A : AnsOk K ans) : CallS K (rIsi2 K) (oIsi ans) := by
  intro F H xs vs Q k s r h c
  have h := h.ex
  unfold oIsiB at h
  split at h
  · rename_i x cs
    obtain ⟨v, u, rfl, q1, q2⟩ := repL2 r
    obtain ⟨t, ts, b, e1, e2, ne, e3, z⟩ := h
    have fin := c _ H (.bl b) F (.refl _ _) rfl z
    unfold Rep at q2
    obtain ⟨a, us, rfl, h1, h2⟩ := q2
    have g : TyGood K t := by
      cases ts with
      | nil => exact absurd rfl ne
      | cons c ts =>
        rw [List.foldr_cons] at e3
        cases h1 : ans t c with
        | none => rw [h1] at e3; cases e3
        | some a => exact A.good t c a h1
    have pv := clssV_of h2 e2
    rcases h1 with h1 | ⟨o, its, m, h1, hc, hd, _, hv⟩
    · exact .inr (.inl ⟨v, a, us, t.v K, _, b, rfl, s _ _ h1, pv, tyX_of s q1 e1 g, kit_any A e3, fin⟩)
    · obtain ⟨oc, od, dt, sl⟩ := o
      simp only at hc hd
      subst hc hd
      have e5 := ClsV.all pv hv
      refine .inr (.inr ⟨v, a, od, its.toList, m, sl, t.v K, b, rfl, by rw [h1], tyX_of s q1 e1 g, by rw [e5]; exact kit_any A e3, fin⟩)
  · rename_i x cl hne
    obtain ⟨v, u, rfl, q1, q2⟩ := repL2 r
    obtain ⟨t, w, b, e1, e2, e3, z⟩ := h
    exact .inl ⟨v, u, t.v K, w.v K, b, rfl, clsV_of q2 e2, tyX_of s q1 e1 (A.good _ _ _ e3), A.one _ _ _ e3, c _ H (.bl b) F (.refl _ _) rfl z⟩
  · exact h.elim
/-- the answers for built-in classes -/
def ansB : Ty → Ty → Option Bool
  | .ty t, .ty c => if ["NoneType", "bool", "int", "str", "tuple", "list"].contains t && ["bool", "int", "str", "tuple", "list"].contains c then some (t == c || (t == "bool" && c == "int")) else none
  | _, _ => none
theorem ansB_kit : (["NoneType", "bool", "int", "str", "tuple", "list"].all fun t => ["bool", "int", "str", "tuple", "list"].all fun c => decide (kitB t c = some (t == c || (t == "bool" && c == "int")))) = true := by decide +kernel
theorem ansB_ty {t c : Ty} {b : Bool} (h : ansB t c = some b) : ∃ x y, t = .ty x ∧ c = .ty y ∧ PySem.W.kitOne K (.type x) (.type y) = some b := by
  cases t with
  | own _ => exact nomatch (show (none : Option Bool) = some b from h)
  | ty t =>
    cases c with
    | own _ => exact nomatch (show (none : Option Bool) = some b from h)
    | ty c =>
      have h : (if ["NoneType", "bool", "int", "str", "tuple", "list"].contains t && ["bool", "int", "str", "tuple", "list"].contains c then some (t == c || (t == "bool" && c == "int")) else none) = some b := h
      by_cases hc : (["NoneType", "bool", "int", "str", "tuple", "list"].contains t && ["bool", "int", "str", "tuple", "list"].contains c) = true
      · rw [if_pos hc] at h
        rw [Bool.and_eq_true] at hc
        have h1 := List.all_eq_true.mp ansB_kit t (by simpa using hc.1)
        have h2 := List.all_eq_true.mp h1 c (by simpa using hc.2)
        exact ⟨t, c, rfl, rfl, kit_ty ((of_decide_eq_true h2).trans h)⟩
      · rw [if_neg hc] at h
        cases h
theorem ansB_ok (K : PySem.W.Frag) : AnsOk K ansB where
  one := fun t c b h => by
    obtain ⟨x, y, rfl, rfl, e⟩ := ansB_ty (K := K) h
    exact e
  good := fun t c b h => by
    obtain ⟨x, y, rfl, rfl, e⟩ := ansB_ty (K := K) h
    trivial
end
/-- the answers of a text: of built-in classes, of the table else -/
def ansW (tbl : List ((Ty × Ty) × Bool)) : Ty → Ty → Option Bool
  | .ty a, .ty b => ansB (.ty a) (.ty b)
  | t, c => tbl.lookup (t, c)
theorem ansW0_ok (K : PySem.W.Frag) : AnsOk K (ansW []) where
  one := fun t c b h => by
    cases t with
    | own _ => exact nomatch (show (none : Option Bool) = some b from h)
    | ty t =>
      cases c with
      | own _ => exact nomatch (show (none : Option Bool) = some b from h)
      | ty c => exact (ansB_ok K).one _ _ _ h
  good := fun t c b h => by
    cases t with
    | own _ => exact nomatch (show (none : Option Bool) = some b from h)
    | ty t =>
      cases c with
      | own _ => exact nomatch (show (none : Option Bool) = some b from h)
      | ty c => exact trivial
end Dl
namespace Dl
open PySem PySem.Spec PyProof.Rows L2
variable [TheW]
section
variable {X : Cx} {n : En} {e a b c : Expr} {es rest : List Expr} {pos : Pos}
/-- the place i of n, signs as Python has them -/
def atD {α : Type} (xs : List α) (i : Int) : Option α := atI xs i
def oIx : DOp := fun x y Q => match x, y with
  | .lst xs, .int i => match atI xs i with
    | some d => Q d
    | none => False
  | .tup xs, .int i => match atI xs i with
    | some d => Q d
    | none => False
  | .str xs, .int i => xs.length ≤ 16777216 ∧ match atI xs i with
    | some c => Q (.str [c])
    | none => False
  | _, _ => False
theorem atI_rep {K : PySem.W.Frag} {F : Hp} {xs : List D} {vs : List V} {i : Int} {d : D} (r : RepL K F xs vs) (h : atI xs i = some d) : ∃ v, atI vs i = some v ∧ Rep K F d v := by
  unfold atI at h ⊢
  rw [← r.len]
  cases e : ixN xs.length i with
  | none => rw [e] at h; cases h
  | some j =>
    rw [e] at h
    exact r.get h
theorem ops_ix {K : PySem.W.Frag} : OpS K (rIx K) oIx := by
  intro F H x y v u Q k s r1 r2 h c
  unfold oIx at h
  split at h
  · rename_i xs i
    obtain rfl := r2
    unfold Rep at r1
    obtain ⟨a, vs, rfl, e1, q⟩ := r1
    cases e : atI xs i with
    | none => rw [e] at h; exact h.elim
    | some d =>
      rw [e] at h
      obtain ⟨z, e2, rz⟩ := atI_rep q e
      exact .inl ⟨a, vs, i, z, rfl, rfl, .of (s _ _ e1), e2, c z H d F (.refl _ _) rz h⟩
  · rename_i xs i
    obtain rfl := r2
    unfold Rep at r1
    obtain ⟨a, vs, rfl, e1, q⟩ := r1
    cases e : atI xs i with
    | none => rw [e] at h; exact h.elim
    | some d =>
      rw [e] at h
      obtain ⟨z, e2, rz⟩ := atI_rep q e
      exact .inr (.inl ⟨a, vs, i, z, rfl, rfl, e1.sq s, e2, c z H d F (.refl _ _) rz h⟩)
  · rename_i xs i
    obtain rfl := r2
    obtain rfl := r1
    obtain ⟨hz, h⟩ := h
    cases e : atI xs i with
    | none => rw [e] at h; exact h.elim
    | some d =>
      rw [e] at h
      exact .inr (.inr ⟨_, i, d, rfl, rfl, by rw [mkS_len, sizeLine_eq]; exact hz, by simpa using e, c (.str ⟨#[d]⟩) H (.str [d]) F (.refl _ _) rfl h⟩)
  · exact h.elim
theorem pd_ix {wa wb : DE} (ha : PD X n a wa) (hb : PD X n b wb) (hs : PlainIx b := by exact fun _ _ => rfl) : PD X n (.Subscript a b pos) (wOp oIx wa wb) :=
  pd_of (pe_ix ix_seq ha.pe hb.pe hs) fun _ _ _ _ _ _ _ R tk hw => op_sim ops_ix R tk hw
def cutD {α : Type} (xs : List α) (lo hi : Option Int) : List α := (xs.drop (HT.sIx xs.length 0 lo)).take (HT.sIx xs.length xs.length hi - HT.sIx xs.length 0 lo)
abbrev DPo := Dst → (Option Int → Dst → Prop) → DX → Prop
structure POD (X : Cx) (n : En) (e : Option Expr) (w : DPo) : Prop where
  run : ∀ (pins : List (Addr × Obj)) (s : Shared) (σ : L2.St) (H F : Hp) (ρ : List Addr) (st : Dst) (Q : Option Int → Dst → Prop) (E : DX), Inv X pins σ H s → Rl X.K n F ρ st σ H → TkD X n E → w st Q E →
    wpAny (model X.prog X.w) X.A (evalPart e X.env) (fun u s' => ∃ o st' H' F' ρ', Inv X pins σ H' s' ∧ IsPart u o ∧ Post F ρ H F' ρ' H' ∧ Rl X.K n F' ρ' st' σ H' ∧ Q o st') X.xe s
def tO (X : Cx) (n : En) (w : DPo) : TO := fun σ H Q => ∃ F ρ st DQ E, Rl X.K n F ρ st σ H ∧ TkD X n E ∧ w st DQ E ∧
  ∀ o st' H' F' ρ', Post F ρ H F' ρ' H' → Rl X.K n F' ρ' st' σ H' → DQ o st' → Q o H'
theorem POD.po {e : Option Expr} {w : DPo} (h : POD X n e w) : PO X e (tO X n w) := by
  refine ⟨fun pins s σ H Q I ⟨F, ρ, st, DQ, E, R, tk, hw, k⟩ => ?_⟩
  refine thn (h.run pins s σ H F ρ st DQ E I R tk hw) fun u s1 ⟨o, st', H', F', ρ', I', r, a, b, d⟩ => ?_
  exact ⟨o, H', I', r, k o st' H' F' ρ' a b d⟩
def wNoPart : DPo := fun st Q _ => Q none st
def wPart (w : DE) : DPo := fun st Q E => w st (fun v st' => match v with
  | .d (.int i) => Q (some i) st'
  | _ => False) E
theorem pod_none : POD X n none wNoPart := ⟨fun pins s σ H F ρ st Q E I R tk hw => thn (po_none.run pins s σ H (fun o H' => o = none ∧ H' = H) I ⟨rfl, rfl⟩) fun u s1 ⟨o, H', I', r, e1, e2⟩ => by
  subst e1 e2
  exact ⟨none, st, _, F, ρ, I', r, Post.refl _ _ _, R, hw⟩⟩
theorem pod_some {w : DE} (h : PD X n e w) : POD X n (some e) (wPart w) := ⟨fun pins s σ H F ρ st Q E I R tk hw => by
  refine thn ((po_some h.pe).run pins s σ H (fun o H' => ∃ st' F' ρ', Post F ρ H F' ρ' H' ∧ Rl X.K n F' ρ' st' σ H' ∧ Q o st') I ?_) fun u s1 ⟨o, H', I', r, st', F', ρ', p, R', q⟩ => ⟨o, st', H', F', ρ', I', r, p, R', q⟩
  refine tE.use R tk hw fun v w1 st1 H1 F1 ρ1 p1 R1 r1 h1 => ?_
  split at h1
  · rename_i i
    obtain rfl := r1
    exact ⟨i, rfl, st1, F1, ρ1, p1, R1, h1⟩
  · exact h1.elim⟩
def oSl : D → Option Int → Option Int → (D → Prop) → Prop := fun x lo hi Q => match x with
  | .lst xs => Q (.lst (cutD xs lo hi))
  | .tup xs => Q (.tup (cutD xs lo hi))
  | .str xs => xs.length ≤ 16777216 ∧ Q (.str (cutD xs lo hi))
  | _ => False
def wSl (w : DE) (lo hi : DPo) : DE := fun st Q E => w st (fun v st1 => lo st1 (fun l st2 => hi st2 (fun h st3 => match v with
  | .d x => oSl x l h fun z => Q (.d z) st3
  | _ => False) E) E) E
theorem repL_cut {K : PySem.W.Frag} {F : Hp} {xs : List D} {vs : List V} (r : RepL K F xs vs) (lo hi : Option Int) : RepL K F (cutD xs lo hi) (cutV vs lo hi) := by
  unfold cutD cutV
  rw [← r.len]
  exact (r.drop _).take _
theorem cutS_mk (xs : List Nat) (lo hi : Option Int) : cutS (mkS xs) lo hi = mkS (cutD xs lo hi) := by
  unfold cutS cutD
  simp [mkS, Str.length]
def rSl3 (K : PySem.W.Frag) : V → Option Int → Option Int → Hp → VK → Prop := fun x lo hi H Q => rSlL K x lo hi H Q ∨ rSlA K x lo hi H Q ∨ rSlS x lo hi H Q
theorem sl_3 : SlR X (rSl3 X.K) := sl_list.or (sl_tupA.or sl_str)
theorem pd_slice {w : DE} {lo hi : Option Expr} {wl wh : DPo} {p2 : Pos} (h : PD X n e w) (hl : POD X n lo wl) (hh : POD X n hi wh) : PD X n (.Subscript e (.Slice lo hi none p2) pos) (wSl w wl wh) :=
  pd_of (pe_slice sl_3 h.pe hl.po hh.po) fun σ H F ρ st Q E R tk hw => by
    refine tE.use R tk hw fun v w1 st1 H1 F1 ρ1 p1 R1 r1 h1 => ?_
    refine ⟨F1, ρ1, st1, _, E, R1, tk, h1, fun l st2 H2 F2 ρ2 p2 R2 h2 => ?_⟩
    refine ⟨F2, ρ2, st2, _, E, R2, tk, h2, fun u st3 H3 F3 ρ3 p3 R3 h3 => ?_⟩
    cases w1 with
    | loc _ => exact h3.elim
    | scr _ => exact h3.elim
    | d x =>
      have r4 : Rep X.K F3 x v := Rep.sub p3.le x v (Rep.sub p2.le x v r1)
      clear r1
      have p13 := (p1.trans p2 R1.ok.dom).trans p3 R2.ok.dom
      have h4 : oSl x l u fun z => Q (.d z) st3 := h3
      clear h3
      unfold oSl at h4
      split at h4
      · rename_i xs
        unfold Rep at r4
        obtain ⟨a, vs, rfl, e1, q⟩ := r4
        refine .inl ⟨a, vs, rfl, .of (R3.ok.sub _ _ e1), fun p hp => ?_⟩
        have g : Grow F3 H3 (upd F3 p (.lst (cutV vs l u))) (upd H3 p (.lst (cutV vs l u))) := .one hp
        obtain ⟨p4, R4⟩ := R3.grow g
        refine ⟨.d (.lst (cutD xs l u)), st3, _, _, p13.trans p4 R3.ok.dom, R4, ?_, h4⟩
        show Rep _ _ (.lst _) _
        unfold Rep
        exact ⟨p, _, rfl, upd_same, RepL.sub p4.le _ _ (repL_cut q l u)⟩
      · rename_i xs
        unfold Rep at r4
        obtain ⟨a, vs, rfl, e1, q⟩ := r4
        refine .inr (.inl ⟨a, vs, rfl, e1.sq R3.ok.sub, fun hz => ?_, fun hz p hp => ?_⟩)
        · refine ⟨.d (.tup (cutD xs l u)), st3, F3, ρ3, p13, R3, ?_, h4⟩
          have e2 : cutD xs l u = xs := by
            unfold cutD
            rw [q.len, hz.1, hz.2, List.drop_zero, Nat.sub_zero, ← q.len, List.take_length]
          rw [e2]
          show Rep _ _ (.tup xs) _
          unfold Rep
          exact ⟨a, vs, rfl, e1, q⟩
        · have g : Grow F3 H3 (upd F3 p (.tup (cutV vs l u))) (upd H3 p (.tup (cutV vs l u))) := .one hp
          obtain ⟨p4, R4⟩ := R3.grow g
          refine ⟨.d (.tup (cutD xs l u)), st3, _, _, p13.trans p4 R3.ok.dom, R4, ?_, h4⟩
          show Rep _ _ (.tup _) _
          unfold Rep
          exact ⟨p, _, rfl, .inl upd_same, RepL.sub p4.le _ _ (repL_cut q l u)⟩
      · rename_i xs
        obtain rfl := r4
        refine .inr (.inr ⟨_, rfl, by rw [mkS_len, sizeLine_eq]; exact h4.1, ?_⟩)
        rw [cutS_mk]
        exact ⟨.d (.str (cutD xs l u)), st3, F3, ρ3, p13, R3, rfl, h4.2⟩
      · exact h4.elim

def wTest (w : DE) : DT := fun st Q E => w st (fun v st' => match v with
  | .d (.bl b) => Q b st'
  | _ => False) E
theorem bl_of {w1 : W} {Q : Bool → Dst → Prop} {st : Dst} {K : PySem.W.Frag} {F : Hp} {ρ : List Addr} {v : V} (h : match w1 with
  | .d (.bl b) => Q b st
  | _ => False) (r : RepW K F ρ w1 v) : ∃ b, v = .bl b ∧ Q b st := by
  split at h
  · rename_i b
    exact ⟨b, r, h⟩
  · exact h.elim
/-- a value as a test; the form of the syntax: not a comparison, not, and, or -/
theorem ptd_val {w : DE} (h : PD X n e w) (he : ∀ whole, isTrue e X.env whole = (do let v ← whole; standAt e.pos; holding [v] (truthy v)) := by intro _; rfl) : PTD X n e (wTest w) :=
  ptd_of (pt_val h.pe he) fun σ H F ρ st Q E R tk hw => by
    refine tE.use R tk hw fun v w1 st1 H1 F1 ρ1 p1 R1 r1 h1 => ?_
    obtain ⟨b, rfl, q⟩ := bl_of h1 r1
    exact ⟨b, rfl, st1, F1, ρ1, p1, R1, q⟩
theorem ptd_cmp {op : CmpOp} {r : R2} {o : DOp} {wa wb : DE} (ho : OpR X (compareOp op) r) (s : OpS X.K r o) (hm : behindInMarks op b = false) (ha : PD X n a wa) (hb : PD X n b wb) : PTD X n (.Compare a [op] [b] pos) (wTest (wOp o wa wb)) :=
  ptd_of (pt_cmpR ho ha.pe hb.pe hm) fun σ H F ρ st Q E R tk hw => by
    refine tE.use R tk hw fun v w1 st1 H1 F1 ρ1 p1 R1 r1 h1 => ?_
    refine tE.use R1 tk h1 fun u w2 st2 H2 F2 ρ2 p2 R2 r2 h2 => ?_
    cases w1 <;> first | exact h2.elim | skip
    cases w2 <;> first | exact h2.elim | skip
    rename_i x y
    refine s F2 H2 x y v u _ _ R2.ok.sub (Rep.sub p2.le x v r1) r2 h2 fun z H' d F' g rz q => ?_
    obtain ⟨p3, R3⟩ := R2.grow g
    obtain ⟨b, rfl, q⟩ := bl_of (ρ := ρ2) q rz
    exact ⟨b, rfl, st2, F', ρ2, (p1.trans p2 R1.ok.dom).trans p3 R2.ok.dom, R3, q⟩
def wAndT (a b : DT) : DT := fun st Q E => a st (fun c st1 => brD c (b st1 Q E) (Q false st1)) E
def wOrT (a b : DT) : DT := fun st Q E => a st (fun c st1 => brD c (Q true st1) (b st1 Q E)) E
def wNotT (a : DT) : DT := fun st Q E => a st (fun c st1 => Q (!c) st1) E
theorem ptd_not {w : DT} (h : PTD X n a w) : PTD X n (.UnaryOp .Not a pos) (wNotT w) :=
  ptd_of (pt_not h.pt) fun σ H F ρ st Q E R tk hw => tT.use R tk hw fun b st1 H1 F1 ρ1 p1 R1 h1 => ⟨st1, F1, ρ1, p1, R1, h1⟩
theorem pwd_and1 {w : DT} (h : PTD X n a w) : PWD X n (.BoolOp .And [a] pos) w :=
  pwd_of (pw_and1 h.pt) fun σ H F ρ st Q E R tk hw => tT.use R tk hw fun b st1 H1 F1 ρ1 p1 R1 h1 => ⟨st1, F1, ρ1, p1, R1, h1⟩
theorem pwd_or1 {w : DT} (h : PTD X n a w) : PWD X n (.BoolOp .Or [a] pos) w :=
  pwd_of (pw_or1 h.pt) fun σ H F ρ st Q E R tk hw => tT.use R tk hw fun b st1 H1 F1 ρ1 p1 R1 h1 => ⟨st1, F1, ρ1, p1, R1, h1⟩
theorem pwd_and {wa wb : DT} (ha : PTD X n a wa) (hb : PWD X n (.BoolOp .And (b :: rest) pos) wb) : PWD X n (.BoolOp .And (a :: b :: rest) pos) (wAndT wa wb) :=
  pwd_of (pw_and ha.pt hb.pw) fun σ H F ρ st Q E R tk hw => by
    refine tT.use R tk hw fun c st1 H1 F1 ρ1 p1 R1 h1 => ?_
    cases c with
    | true => have h1 := brD_t h1; exact tT.use R1 tk h1 fun b st2 H2 F2 ρ2 p2 R2 h2 => ⟨st2, F2, ρ2, p1.trans p2 R1.ok.dom, R2, h2⟩
    | false => have h1 := brD_f h1; exact ⟨st1, F1, ρ1, p1, R1, h1⟩
theorem pwd_or {wa wb : DT} (ha : PTD X n a wa) (hb : PWD X n (.BoolOp .Or (b :: rest) pos) wb) : PWD X n (.BoolOp .Or (a :: b :: rest) pos) (wOrT wa wb) :=
  pwd_of (pw_or ha.pt hb.pw) fun σ H F ρ st Q E R tk hw => by
    refine tT.use R tk hw fun c st1 H1 F1 ρ1 p1 R1 h1 => ?_
    cases c with
    | false => have h1 := brD_f h1; exact tT.use R1 tk h1 fun b st2 H2 F2 ρ2 p2 R2 h2 => ⟨st2, F2, ρ2, p1.trans p2 R1.ok.dom, R2, h2⟩
    | true => have h1 := brD_t h1; exact ⟨st1, F1, ρ1, p1, R1, h1⟩
def wAndV (a b : DE) : DE := fun st Q E => a st (fun v st1 => match v with
  | .d (.bl c) => brD c (b st1 Q E) (Q (.d (.bl false)) st1)
  | _ => False) E
def wOrV (a b : DE) : DE := fun st Q E => a st (fun v st1 => match v with
  | .d (.bl c) => brD c (Q (.d (.bl true)) st1) (b st1 Q E)
  | _ => False) E
def wNotV (a : DE) : DE := fun st Q E => a st (fun v st1 => match v with
  | .d (.bl c) => Q (.d (.bl (!c))) st1
  | _ => False) E
theorem pd_one {op} {w : DE} (h : PD X n a w) : PD X n (.BoolOp op [a] pos) w :=
  pd_of (pe_one h.pe) fun σ H F ρ st Q E R tk hw => tE.use R tk hw fun v w1 st1 H1 F1 ρ1 p1 R1 r1 h1 => ⟨w1, st1, F1, ρ1, p1, R1, r1, h1⟩
theorem blE_of {w1 : W} {Q : Bool → Prop} {K : PySem.W.Frag} {F : Hp} {ρ : List Addr} {v : V} (h : match w1 with
  | .d (.bl b) => Q b
  | _ => False) (r : RepW K F ρ w1 v) : ∃ b, v = .bl b ∧ Q b := by
  split at h
  · rename_i b
    exact ⟨b, r, h⟩
  · exact h.elim
theorem pd_and {wa wb : DE} (ha : PD X n a wa) (hb : PD X n (.BoolOp .And (b :: rest) pos) wb) : PD X n (.BoolOp .And (a :: b :: rest) pos) (wAndV wa wb) :=
  pd_of (pe_and ha.pe hb.pe) fun σ H F ρ st Q E R tk hw => by
    refine tE.use R tk hw fun v w1 st1 H1 F1 ρ1 p1 R1 r1 h1 => ?_
    obtain ⟨c, rfl, h1⟩ := blE_of (Q := fun c => brD c (wb st1 Q E) (Q (.d (.bl false)) st1)) h1 r1
    refine ⟨c, rfl, ?_⟩
    cases c with
    | true => have h1 := brD_t h1; exact tE.use R1 tk h1 fun v w2 st2 H2 F2 ρ2 p2 R2 r2 h2 => ⟨w2, st2, F2, ρ2, p1.trans p2 R1.ok.dom, R2, r2, h2⟩
    | false => have h1 := brD_f h1; exact ⟨.d (.bl false), st1, F1, ρ1, p1, R1, rfl, h1⟩
theorem pd_or {wa wb : DE} (ha : PD X n a wa) (hb : PD X n (.BoolOp .Or (b :: rest) pos) wb) : PD X n (.BoolOp .Or (a :: b :: rest) pos) (wOrV wa wb) :=
  pd_of (pe_or ha.pe hb.pe) fun σ H F ρ st Q E R tk hw => by
    refine tE.use R tk hw fun v w1 st1 H1 F1 ρ1 p1 R1 r1 h1 => ?_
    obtain ⟨c, rfl, h1⟩ := blE_of (Q := fun c => brD c (Q (.d (.bl true)) st1) (wb st1 Q E)) h1 r1
    refine ⟨c, rfl, ?_⟩
    cases c with
    | false => have h1 := brD_f h1; exact tE.use R1 tk h1 fun v w2 st2 H2 F2 ρ2 p2 R2 r2 h2 => ⟨w2, st2, F2, ρ2, p1.trans p2 R1.ok.dom, R2, r2, h2⟩
    | true => have h1 := brD_t h1; exact ⟨.d (.bl true), st1, F1, ρ1, p1, R1, rfl, h1⟩
theorem pd_not {wa : DE} (ha : PD X n a wa) : PD X n (.UnaryOp .Not a pos) (wNotV wa) :=
  pd_of (pe_not ha.pe) fun σ H F ρ st Q E R tk hw => by
    refine tE.use R tk hw fun v w1 st1 H1 F1 ρ1 p1 R1 r1 h1 => ?_
    obtain ⟨c, rfl, h1⟩ := blE_of (Q := fun c => Q (.d (.bl (!c))) st1) h1 r1
    exact ⟨c, rfl, .d (.bl (!c)), st1, F1, ρ1, p1, R1, rfl, h1⟩
def wIf (t : DT) (a b : DE) : DE := fun st Q E => t st (fun c st1 => brD c (a st1 Q E) (b st1 Q E)) E
theorem pd_if {wt : DT} {wa wb : DE} (ht : PTD X n c wt) (ha : PD X n a wa) (hb : PD X n b wb) : PD X n (.IfExp c a b pos) (wIf wt wa wb) :=
  pd_of (pe_ifExp ht.pt ha.pe hb.pe) fun σ H F ρ st Q E R tk hw => by
    refine tT.use R tk hw fun c st1 H1 F1 ρ1 p1 R1 h1 => ?_
    cases c with
    | true => have h1 := brD_t h1; exact tE.use R1 tk h1 fun v w2 st2 H2 F2 ρ2 p2 R2 r2 h2 => ⟨w2, st2, F2, ρ2, p1.trans p2 R1.ok.dom, R2, r2, h2⟩
    | false => have h1 := brD_f h1; exact tE.use R1 tk h1 fun v w2 st2 H2 F2 ρ2 p2 R2 r2 h2 => ⟨w2, st2, F2, ρ2, p1.trans p2 R1.ok.dom, R2, r2, h2⟩
def wChain (o o' : DOp) (wa wb wc : DE) : DE := fun st Q E => wa st (fun a st1 => wb st1 (fun b st2 => match a, b with
  | .d x, .d y => o x y fun z => match z with
    | .bl k => brD k (wc st2 (fun c st3 => match c with
        | .d w => o' y w fun z' => Q (.d z') st3
        | _ => False) E) (Q (.d (.bl false)) st2)
    | _ => False
  | _, _ => False) E) E
theorem chain_sim {r r' : R2} {o o' : DOp} {wa wb wc : DE} (s : OpS X.K r o) (s' : OpS X.K r' o') {σ : L2.St} {H F : Hp} {ρ : List Addr} {st : Dst} {Q : DQ} {E : DX} {kk : VK} (R : Rl X.K n F ρ st σ H) (tk : TkD X n E) (h : wChain o o' wa wb wc st Q E) (hk : ∀ v H', qE X n σ F ρ H Q v H' → kk v H') :
    tChain r r' (tE X n wa) (tE X n wb) (tE X n wc) σ H kk := by
  refine tE.use R tk h fun v w1 st1 H1 F1 ρ1 p1 R1 r1 h1 => ?_
  refine tE.use R1 tk h1 fun u w2 st2 H2 F2 ρ2 p2 R2 r2 h2 => ?_
  cases w1 <;> first | exact h2.elim | skip
  cases w2 <;> first | exact h2.elim | skip
  rename_i x y
  refine s F2 H2 x y v u _ _ R2.ok.sub (Rep.sub p2.le x v r1) r2 h2 fun z H' d F' g rz q => ?_
  obtain ⟨p3, R3⟩ := R2.grow g
  have p13 := (p1.trans p2 R1.ok.dom).trans p3 R2.ok.dom
  split at q
  · rename_i k
    refine ⟨k, rz, ?_⟩
    cases k with
    | false => have q := brD_f q; exact hk _ _ ⟨.d (.bl false), st2, F', ρ2, p13, R3, rfl, q⟩
    | true =>
      have q := brD_t q
      refine tE.use R3 tk q fun t w4 st4 H4 F4 ρ4 p4 R4 r4 h4 => ?_
      split at h4
      · rename_i w
        refine s' F4 H4 y w u t _ _ R4.ok.sub (Rep.sub p4.le y u (Rep.sub p3.le y u r2)) r4 h4 fun z' H5 d5 F5 g5 rz5 q5 => ?_
        obtain ⟨p5, R5⟩ := R4.grow g5
        exact hk _ _ ⟨.d d5, st4, F5, ρ4, (p13.trans p4 R3.ok.dom).trans p5 R4.ok.dom, R5, rz5, q5⟩
      · exact h4.elim
  · exact q.elim
theorem pd_chain {op op' : CmpOp} {r r' : R2} {o o' : DOp} {wa wb wc : DE} (ho : OpR X (compareOp op) r) (ho' : OpR X (compareOp op') r') (s : OpS X.K r o) (s' : OpS X.K r' o') (ha : PD X n a wa) (hb : PD X n b wb) (hc : PD X n c wc)
    (hm : lastMarks [op, op'] [b, c] = false := by with_unfolding_all rfl) : PD X n (.Compare a [op, op'] [b, c] pos) (wChain o o' wa wb wc) :=
  pd_of (pe_chain ho ho' ha.pe hb.pe hc.pe hm) fun _ _ _ _ _ _ _ R tk hw => chain_sim s s' R tk hw fun _ _ q => q
theorem ptd_chain {op op' : CmpOp} {r r' : R2} {o o' : DOp} {wa wb wc : DE} (ho : OpR X (compareOp op) r) (ho' : OpR X (compareOp op') r') (s : OpS X.K r o) (s' : OpS X.K r' o') (ha : PD X n a wa) (hb : PD X n b wb) (hc : PD X n c wc)
    (hm : lastMarks [op, op'] [b, c] = false := by with_unfolding_all rfl) : PTD X n (.Compare a [op, op'] [b, c] pos) (wTest (wChain o o' wa wb wc)) :=
  ptd_of (pt_chain ho ho' ha.pe hb.pe hc.pe hm) fun σ H F ρ st Q E R tk hw => chain_sim s s' R tk hw fun v H' ⟨w', st', F', ρ', p, R', rw, q⟩ => by
    obtain ⟨k, rfl, q⟩ := bl_of q rw
    exact ⟨k, rfl, st', F', ρ', p, R', q⟩
end
end Dl
namespace Dl
open PySem PySem.Spec PyProof.Rows L2
variable [TheW]
section
variable {X : Cx} {n : En} {e a b c : Expr} {cs : Stmt} {rest body : List Stmt} {pos : Pos} {t u : DS} {we : DE}

theorem SPD.after {pins : List (Addr × Obj)} {F F1 : Hp} {ρ ρ1 : List Addr} {H H1 : Hp} {D : DEnds} {f : Flow} {s : Shared} (p : Post F ρ H F1 ρ1 H1) (d : ∀ c ∈ ρ1, H1 c ≠ none) (h : SPD X n pins F1 ρ1 H1 D f s) : SPD X n pins F ρ H D f s := by
  cases f with
  | next => obtain ⟨σ', H', F', ρ', st', I, q, R, z⟩ := h; exact ⟨σ', H', F', ρ', st', I, p.trans q d, R, z⟩
  | brk => obtain ⟨σ', H', F', ρ', st', I, q, R, z⟩ := h; exact ⟨σ', H', F', ρ', st', I, p.trans q d, R, z⟩
  | cont => obtain ⟨σ', H', F', ρ', st', I, q, R, z⟩ := h; exact ⟨σ', H', F', ρ', st', I, p.trans q d, R, z⟩
  | ret u => obtain ⟨v, w', σ', H', F', ρ', μ, I, r, q, p0, ok, rw, z⟩ := h; exact ⟨v, w', σ', H', F', ρ', μ, I, r, p.trans q d, p0, ok, rw, z⟩

def wNext : DS := fun D st => D.nx st
def wSeq (t u : DS) : DS := fun D st => t { D with nx := u D } st
theorem pssd_nil : PSSD X n [] wNext := ⟨fun _ _ σ H F ρ st D I R tk hw => wpAny_execs_nil ⟨σ, H, F, ρ, st, I, Post.refl _ _ _, R, hw⟩⟩
theorem pssd_cons (h1 : PSD X n cs t) (h2 : PSSD X n rest u) : PSSD X n (cs :: rest) (wSeq t u) := by
  refine ⟨fun pins s σ H F ρ st D I R tk hw => ?_⟩
  refine wpAny_execs_cons (thn (h1.run pins s σ H F ρ st { D with nx := u D } I R tk hw) fun f s1 q => ?_)
  cases f with
  | next =>
    obtain ⟨σ', H', F', ρ', st', I', p, R', z⟩ := q
    exact thn (h2.run pins s1 σ' H' F' ρ' st' D I' R' tk z) fun f s2 q2 => q2.after p R'.ok.dom
  | ret v => exact q
  | brk => exact q
  | cont => exact q
theorem pssd_one (h1 : PSD X n cs t) : PSSD X n [cs] t := by
  refine ⟨fun pins s σ H F ρ st D I R tk hw => ?_⟩
  refine wpAny_execs_cons (thn (h1.run pins s σ H F ρ st D I R tk hw) fun f s1 q => ?_)
  cases f with
  | next => exact wpAny_execs_nil q
  | ret v => exact q
  | brk => exact q
  | cont => exact q
theorem psd_pass : PSD X n (.Pass pos) wNext := psd_of ps_pass fun σ H F ρ st D R tk hw => ⟨F, ρ, st, Post.refl _ _ _, R, hw⟩
def wBreak : DS := fun D st => D.bk st
def wCont : DS := fun D st => D.ct st
theorem psd_break : PSD X n (.Break pos) wBreak := psd_of ps_break fun σ H F ρ st D R tk hw => ⟨F, ρ, st, Post.refl _ _ _, R, hw⟩
theorem psd_continue : PSD X n (.Continue pos) wCont := psd_of ps_continue fun σ H F ρ st D R tk hw => ⟨F, ρ, st, Post.refl _ _ _, R, hw⟩
def wNever : DS := fun _ _ => False
theorem psd_never : PSD X n cs wNever := ⟨fun _ _ _ _ _ _ _ _ _ _ _ h => h.elim⟩
theorem pssd_never : PSSD X n rest wNever := ⟨fun _ _ _ _ _ _ _ _ _ _ _ h => h.elim⟩
def wDrop (w : DE) : DS := fun D st => w st (fun _ st1 => D.nx st1) D.ex
theorem psd_expr (h : PD X n e we) (hs : swapsWith e none pos.line X.env = pure false := by rfl) : PSD X n (.Expr e pos) (wDrop we) :=
  psd_of (ps_expr h.pe hs) fun σ H F ρ st D R tk hw => tE.use R tk hw fun v w1 st1 H1 F1 ρ1 p1 R1 r1 h1 => ⟨F1, ρ1, st1, p1, R1, h1⟩
def wRet (w : DE) : DS := fun D st => w st (fun v st1 => D.rt v st1.μ) D.ex
theorem psd_ret (h : PD X n e we) : PSD X n (.Return (some e) pos) (wRet we) :=
  psd_of (ps_ret h.pe) fun σ H F ρ st D R tk hw => tE.use R tk hw fun v w1 st1 H1 F1 ρ1 p1 R1 r1 h1 => ⟨w1, F1, ρ1, st1.μ, p1, R1.po, R1.ok, r1, h1⟩
def wRetN : DS := fun D st => D.rt (.d .non) st.μ
theorem psd_retN : PSD X n (.Return none pos) wRetN := psd_of ps_retN fun σ H F ρ st D R tk hw => ⟨.d .non, F, ρ, st.μ, Post.refl _ _ _, R.po, R.ok, rfl, hw⟩
theorem tS.go {w : DS} {σ : L2.St} {H F F0 : Hp} {ρ ρ0 : List Addr} {H0 : Hp} {st : Dst} {D : DEnds} (R : Rl X.K n F ρ st σ H) (tk : TkD X n D.ex) (p : Post F0 ρ0 H0 F ρ H) (h : w D st) : tS X n w (qD X n F0 ρ0 H0 D) σ H :=
  tS.use R tk h (fun σ' H' F' ρ' st' q R' z => ⟨F', ρ', st', p.trans q R.ok.dom, R', z⟩) (fun v w' H' F' ρ' μ q p0 ok rw z => ⟨w', F', ρ', μ, p.trans q R.ok.dom, p0, ok, rw, z⟩)
    (fun σ' H' F' ρ' st' q R' z => ⟨F', ρ', st', p.trans q R.ok.dom, R', z⟩) (fun σ' H' F' ρ' st' q R' z => ⟨F', ρ', st', p.trans q R.ok.dom, R', z⟩)
def wIfS (c : DT) (t u : DS) : DS := fun D st => c st (fun b st1 => brD b (t D st1) (u D st1)) D.ex
theorem psd_if {wc : DT} {p q : List Stmt} (hc : PTD X n c wc) (ha : PSSD X n p t) (hb : PSSD X n q u) : PSD X n (.If c p q pos) (wIfS wc t u) :=
  psd_of (ps_if hc.pt ha.pss hb.pss) fun σ H F ρ st D R tk hw => by
    refine tT.use R tk hw fun b st1 H1 F1 ρ1 p1 R1 h1 => ?_
    cases b with
    | true => have h1 := brD_t h1; exact tS.go R1 tk p1 h1
    | false => have h1 := brD_f h1; exact tS.go R1 tk p1 h1

abbrev DG := W → Dst → (Dst → Prop) → DX → Prop
abbrev DGs := List D → Dst → (Dst → Prop) → DX → Prop
structure PGD (X : Cx) (n : En) (target : Expr) (g : DG) : Prop where
  run : ∀ (pins : List (Addr × Obj)) (s : Shared) (σ : L2.St) (H F : Hp) (ρ : List Addr) (st : Dst) (w : W) (v : V) (u : Value) (Q : Dst → Prop) (E : DX), Inv X pins σ H s → Rl X.K n F ρ st σ H → TkD X n E → RelV v u → RepW X.K F ρ w v → g w st Q E →
    wpAny (model X.prog X.w) X.A (assign target X.env u) (fun _ s' => ∃ σ' H' F' ρ' st', Inv X pins σ' H' s' ∧ Post F ρ H F' ρ' H' ∧ Rl X.K n F' ρ' st' σ' H' ∧ Q st') X.xe s
def tGD (X : Cx) (n : En) (g : DG) : TG := fun v σ H Q => ∃ F ρ st w DQ E, Rl X.K n F ρ st σ H ∧ TkD X n E ∧ RepW X.K F ρ w v ∧ g w st DQ E ∧ ∀ σ' H' F' ρ' st', Post F ρ H F' ρ' H' → Rl X.K n F' ρ' st' σ' H' → DQ st' → Q σ' H'
theorem PGD.pg {tg : Expr} {g : DG} (h : PGD X n tg g) : PG X tg (tGD X n g) := by
  refine ⟨fun pins s σ H v u Q I r ⟨F, ρ, st, w, DQ, E, R, tk, rw, hw, k⟩ => ?_⟩
  exact thn (h.run pins s σ H F ρ st w v u DQ E I R tk r rw hw) fun _ s1 ⟨σ', H', F', ρ', st', I', p, R', q⟩ => ⟨σ', H', I', k _ _ _ _ _ p R' q⟩
theorem pgd_of {tg : Expr} {t : TG} {g : DG} (h : PG X tg t) (sim : ∀ (σ : L2.St) (H F : Hp) (ρ : List Addr) (st : Dst) (w : W) (v : V) (Q : Dst → Prop) (E : DX), Rl X.K n F ρ st σ H → TkD X n E → RepW X.K F ρ w v → g w st Q E → t v σ H (qN X n F ρ H Q)) : PGD X n tg g := by
  refine ⟨fun pins s σ H F ρ st w v u Q E I R tk r rw hw => ?_⟩
  exact thn (h.run pins s σ H v u _ I r (sim σ H F ρ st w v Q E R tk rw hw)) fun _ s1 ⟨σ', H', I', F', ρ', st', p, R', q⟩ => ⟨σ', H', F', ρ', st', I', p, R', q⟩
theorem Rl.set {K : PySem.W.Frag} {F : Hp} {ρ : List Addr} {st : Dst} {σ : L2.St} {H : Hp} (R : Rl K n F ρ st σ H) (i : Nat) {w : W} {v : V} (r : RepW K F ρ w v) : Rl K n F ρ { st with δ := st.δ.set i (some w) } (σ.set i (some v)) H := by
  refine ⟨R.ok, R.po, by simp [R.len], fun j w' e => ?_⟩
  have e : (st.δ.set i (some w))[j]? = some (some w') := e
  by_cases hj : i = j
  · subst hj
    by_cases hi : i < st.δ.length
    · rw [List.getElem?_set_self hi] at e
      cases e
      exact ⟨v, by rw [List.getElem?_set_self (by rw [← R.len]; exact hi)], r⟩
    · rw [List.getElem?_eq_none (by simpa using hi)] at e; cases e
  · rw [List.getElem?_set_ne hj] at e
    obtain ⟨v', e', r'⟩ := R.slots j w' e
    exact ⟨v', by rw [List.getElem?_set_ne hj]; exact e', r'⟩
def gN (i : Nat) : DG := fun w st Q _ => Q { st with δ := st.δ.set i (some w) }
theorem pgd_name {i : Nat} {x : Str} (hN : X.N.Nodup) (hi : X.N[i]? = some x := by rfl) (hx : Loc X.env.scope x := by first | exact Or.inl rfl | exact Or.inr rfl) (hf : X.fn x = true ∨ X.env.scope.names.lookup x = some .local := by first | exact .inl rfl | exact .inr rfl | assumption) : PGD X n (.Name x pos) (gN i) :=
  pgd_of (pg_name hN hi hx hf) fun σ H F ρ st w v Q E R tk r hw => ⟨F, ρ, _, Post.refl _ _ _, R.set i r, hw⟩
def gsNil : DGs := fun ds st Q _ => match ds with
  | [] => Q st
  | _ => False
def gsCons (g : DG) (gs : DGs) : DGs := fun ds st Q E => match ds with
  | d :: r => g (.d d) st (fun st1 => gs r st1 Q E) E
  | [] => False
structure PGsD (X : Cx) (n : En) (ts : List Expr) (g : DGs) : Prop where
  run : ∀ (pins : List (Addr × Obj)) (s : Shared) (σ : L2.St) (H F : Hp) (ρ : List Addr) (st : Dst) (ds : List D) (vs : List V) (us : List Value) (Q : Dst → Prop) (E : DX), Inv X pins σ H s → Rl X.K n F ρ st σ H → TkD X n E → Vals vs us → RepL X.K F ds vs → g ds st Q E →
    wpAny (model X.prog X.w) X.A (assignInOrder ((assignEach ts X.env).map (·.2)) us) (fun _ s' => ∃ σ' H' F' ρ' st', Inv X pins σ' H' s' ∧ Post F ρ H F' ρ' H' ∧ Rl X.K n F' ρ' st' σ' H' ∧ Q st') X.xe s
theorem pgsd_nil : PGsD X n [] gsNil := by
  refine ⟨fun pins s σ H F ρ st ds vs us Q E I R tk r rw hw => ?_⟩
  cases ds with
  | cons _ _ => exact hw.elim
  | nil =>
    unfold RepL at rw; subst rw
    cases r
    exact assignInOrder_nil ⟨σ, H, F, ρ, st, I, Post.refl _ _ _, R, hw⟩
theorem pgsd_cons {es : List Expr} {g : DG} {gs : DGs} (h1 : PGD X n e g) (h2 : PGsD X n es gs)
    (hs : (assignEach (e :: es) X.env).map (·.2) = assign e X.env :: (assignEach es X.env).map (·.2) := by rfl) : PGsD X n (e :: es) (gsCons g gs) := by
  refine ⟨fun pins s σ H F ρ st ds vs us Q E I R tk r rw hw => ?_⟩
  cases ds with
  | nil => exact hw.elim
  | cons d ds =>
    unfold RepL at rw
    obtain ⟨v, vr, rfl, r1, r2⟩ := rw
    cases r with
    | cons rv rr =>
      rw [hs]
      refine assignInOrder_cons (thn (h1.run pins s σ H F ρ st (.d d) v _ _ E I R tk rv r1 hw) fun _ s1 ⟨σ1, H1, F1, ρ1, st1, I1, p1, R1, q1⟩ => ?_)
      exact thn (h2.run pins s1 σ1 H1 F1 ρ1 st1 ds vr _ Q E I1 R1 tk rr (RepL.sub p1.le _ _ r2) q1) fun _ s2 ⟨σ2, H2, F2, ρ2, st2, I2, p2, R2, q2⟩ => ⟨σ2, H2, F2, ρ2, st2, I2, p1.trans p2 R1.ok.dom, R2, q2⟩
/-- (a, b, ..) = a tuple of that length -/
def gT (m : Nat) (gs : DGs) : DG := fun w st Q E => match w with
  | .d (.tup xs) => xs.length = m ∧ gs xs st Q E
  | _ => False
theorem pgd_tup {es : List Expr} {k m : Nat} {gs : DGs} (hc : X.calm = true) (h : PGsD X n es gs)
    (hn : (assignEach es X.env).length = m := by rfl) (hst : (assignEach es X.env).findIdx? (·.1) = none := by rfl) : PGD X n (.Tuple es k pos) (gT m gs) := by
  refine ⟨fun pins s σ H F ρ st w v u Q E I R tk r rw hw => ?_⟩
  unfold gT at hw
  split at hw
  · rename_i xs
    obtain ⟨hl, hw⟩ := hw
    have rw : Rep X.K F (.tup xs) v := rw
    unfold Rep at rw
    obtain ⟨p, vs, rfl, e1, q⟩ := rw
    cases r
    obtain ⟨its, rv, ht, hz⟩ := I.tuple (e1.sq R.ok.sub)
    refine assign_Tuple_tuple (I.ok.hd hc) ht (by simp [hn, ← hl, ← rv.length, q.len]) hst fun h' hx => ?_
    have I1 : Inv X pins σ H { s with heap := h' } := I.kept (t' := s.toks) fun b o e => hx b o (Nat.ne_of_lt (Heap.lt_size e)) e
    exact h.run pins _ σ H F ρ st xs vs _ Q E I1 R tk (by simpa using rv) q hw
  · exact hw.elim
def wAsg (w : DE) (g : DG) : DS := fun D st => w st (fun v st1 => g v st1 D.nx D.ex) D.ex
theorem psd_set {i : Nat} {x : Str} {pos' : Pos} (hN : X.N.Nodup) (h : PD X n e we) (hi : X.N[i]? = some x := by rfl) (hx : Loc X.env.scope x := by first | exact Or.inl rfl | exact Or.inr rfl) (hs : swapsWith e (some (.Name x pos')) pos.line X.env = pure false := by rfl)
    (hf : X.fn x = true ∨ X.env.scope.names.lookup x = some .local := by first | exact .inl rfl | exact .inr rfl | assumption) : PSD X n (.Assign [.Name x pos'] e pos) (wAsg we (gN i)) :=
  psd_of (ps_set hN hi hx h.pe hs hf) fun σ H F ρ st D R tk hw => tE.use R tk hw fun v w1 st1 H1 F1 ρ1 p1 R1 r1 h1 => ⟨F1, ρ1, _, p1, R1.set i r1, h1⟩
theorem psd_asg {tg : Expr} {g : DG} (he : PD X n e we) (hg : PGD X n tg g) (hs : swapsWithSole [tg] e pos.line X.env = pure false := by rfl) (hw : swappedStores [tg] e X.env = pure none := by rfl)
    (h1 : (assignEach [tg] X.env).map (·.2) = [assign tg X.env] := by rfl) : PSD X n (.Assign [tg] e pos) (wAsg we g) :=
  psd_of (ps_asg he.pe hg.pg hs hw h1) fun σ H F ρ st D R tk hw => tE.use R tk hw fun v w1 st1 H1 F1 ρ1 p1 R1 r1 h1 =>
    ⟨F1, ρ1, st1, w1, _, _, R1, tk, r1, h1, fun σ' H' F' ρ' st' q R' z => ⟨F', ρ', st', p1.trans q R1.ok.dom, R', z⟩⟩
end
end Dl
namespace Dl
open PySem PySem.Spec PyProof.Rows L2
variable [TheW]
section
variable {X : Cx} {n : En} {e a b c tg : Expr} {cs : Stmt} {rest body : List Stmt} {pos : Pos} {t u : DS} {we : DE}

def wPar (i j : Nat) (wa : DA) : DS := fun D st => wa st (fun ws st1 => match ws with
  | [v, w] => D.nx { st1 with δ := (st1.δ.set i (some v)).set j (some w) }
  | _ => False) D.ex
theorem psd_par {i j : Nat} {x y : Str} {wa : DA} {px py pt : Pos} {kt k2 pt2} (hc : X.calm = true) (hN : X.N.Nodup) (ha : PAD X n [a, b] wa) (hi : X.N[i]? = some x := by rfl) (hj : X.N[j]? = some y := by rfl) (hij : i ≠ j := by decide)
    (hx : X.env.scope.names.lookup x = some .local := by rfl) (hy : X.env.scope.names.lookup y = some .local := by rfl)
    (hw : swappedStores [.Tuple [.Name x px, .Name y py] kt pt] (.Tuple [a, b] k2 pt2) X.env = pure (some [x, y]) := by rfl)
    (hs : swapsWithSole [.Tuple [.Name x px, .Name y py] kt pt] (.Tuple [a, b] k2 pt2) pos.line X.env = pure false := by rfl) :
    PSD X n (.Assign [.Tuple [.Name x px, .Name y py] kt pt] (.Tuple [a, b] k2 pt2) pos) (wPar i j wa) :=
  psd_of (ps_par hc hN hi hj hij hx hy ha.pa hw hs) fun σ H F ρ st D R tk hw => by
    refine tA.use R tk hw fun vs ws st1 H1 F1 ρ1 p1 R1 r1 h1 => ?_
    split at h1
    · rename_i w1 w2
      obtain ⟨v1, r, rfl, q1, v2, r', rfl, q2, rfl⟩ := r1
      exact ⟨v1, v2, rfl, F1, ρ1, _, p1, (R1.set i q1).set j q2, h1⟩
    · exact h1.elim

/-- J yields the items xs, wherever F0 stands -/
structure ItD (K : PySem.W.Frag) (F0 : Hp) (J : It) (xs : List D) : Prop where
  go : ∀ (i : Nat) (F H : Hp), SubH F0 F → SubH F H → i < xs.length → J.go i H
  yld : ∀ (i : Nat) (F H : Hp) (x : V) (H' : Hp), SubH F0 F → SubH F H → i < xs.length → J.yld i H x H' → ∃ d F', xs[i]? = some d ∧ Grow F H F' H' ∧ Rep K F' d x
  stop : ∀ (i : Nat) (F H : Hp), SubH F0 F → SubH F H → xs.length ≤ i → J.stop i H
abbrev DI := Dst → (List D → Dst → Prop) → DX → Prop
structure PID (X : Cx) (n : En) (tg iter : Expr) (w : DI) : Prop where
  run : ∀ (pins : List (Addr × Obj)) (s : Shared) (σ : L2.St) (H F : Hp) (ρ : List Addr) (st : Dst) (Q : List D → Dst → Prop) (E : DX), Inv X pins σ H s → Rl X.K n F ρ st σ H → TkD X n E → w st Q E →
    wpAny (model X.prog X.w) X.A (eval iter X.env) (fun v s1 => wpAny (model X.prog X.w) X.A (pyIter v) (PIE X pins σ tg fun J H' => ∃ xs st' F' ρ', Post F ρ H F' ρ' H' ∧ Rl X.K n F' ρ' st' σ H' ∧ ItD X.K F' J xs ∧ Q xs st') X.xe s1) X.xe s
def tID (X : Cx) (n : En) (w : DI) : TI := fun σ H R0 => ∃ F ρ st DQ E, Rl X.K n F ρ st σ H ∧ TkD X n E ∧ w st DQ E ∧ ∀ J xs st' H' F' ρ', Post F ρ H F' ρ' H' → Rl X.K n F' ρ' st' σ H' → ItD X.K F' J xs → DQ xs st' → R0 J H'
theorem PID.pi {iter : Expr} {w : DI} (h : PID X n tg iter w) : PI X tg iter (tID X n w) := by
  refine ⟨fun pins s σ H R0 I ⟨F, ρ, st, DQ, E, R, tk, hw, k⟩ => ?_⟩
  refine thn (h.run pins s σ H F ρ st DQ E I R tk hw) fun v s1 q => thn q fun itv s2 ⟨it, fp, tn, J, H', e, I', T, st2, f2, xs, st', F', ρ', p, R', it', q⟩ => ?_
  exact ⟨it, fp, tn, J, H', e, I', T, st2, f2, k J xs st' H' F' ρ' p R' it' q⟩
theorem pid_of {iter : Expr} {wi : TI} {w : DI} (h : PI X tg iter wi) (sim : ∀ (σ : L2.St) (H F : Hp) (ρ : List Addr) (st : Dst) (Q : List D → Dst → Prop) (E : DX), Rl X.K n F ρ st σ H → TkD X n E → w st Q E →
    wi σ H fun J H' => ∃ xs st' F' ρ', Post F ρ H F' ρ' H' ∧ Rl X.K n F' ρ' st' σ H' ∧ ItD X.K F' J xs ∧ Q xs st') : PID X n tg iter w :=
  ⟨fun pins s σ H F ρ st Q E I R tk hw => h.run pins s σ H _ I (sim σ H F ρ st Q E R tk hw)⟩
/-- over a list or a text or a tuple, by its expression -/
def items : D → Option (List D)
  | .lst xs => some xs
  | .tup xs => some xs
  | .str x => some (x.map fun c => .str [c])
  | _ => none
def wItL (w : DE) : DI := fun st Q E => w st (fun v st1 => match v with
  | .d (.lst xs) => Q xs st1
  | _ => False) E
def wItT (w : DE) : DI := fun st Q E => w st (fun v st1 => match v with
  | .d (.tup xs) => Q xs st1
  | _ => False) E
def wItS (w : DE) : DI := fun st Q E => w st (fun v st1 => match v with
  | .d (.str x) => Q (x.map fun c => .str [c]) st1
  | _ => False) E
theorem itd_list {K : PySem.W.Frag} {F0 : Hp} {p : Addr} {vs : List V} {xs : List D} (h : F0 p = some (.lst vs)) (r : RepL K F0 xs vs) : ItD K F0 (Itl K p) xs where
  go := fun i F H s1 s2 hi => by
    obtain ⟨v, e, _⟩ := r.get (i := i) (d := xs[i]) (by simp [hi])
    exact ⟨vs, v, .of (s2 _ _ (s1 _ _ h)), e⟩
  yld := fun i F H x H' s1 s2 hi y => by
    obtain ⟨rfl, y⟩ := y
    obtain ⟨d, e, q⟩ := r.getV (y vs (.of (s2 _ _ (s1 _ _ h))))
    exact ⟨d, F, e, .refl _ _, Rep.sub s1 _ _ q⟩
  stop := fun i F H s1 s2 hi => ⟨vs, .of (s2 _ _ (s1 _ _ h)), by rw [← r.len]; exact hi⟩
theorem itd_tup {K : PySem.W.Frag} {F0 : Hp} {p : Addr} {vs : List V} {xs : List D} (h : TupAt K F0 p vs) (r : RepL K F0 xs vs) : ItD K F0 (Itt K p) xs where
  go := fun i F H s1 s2 hi => by
    obtain ⟨v, e, _⟩ := r.get (i := i) (d := xs[i]) (by simp [hi])
    exact ⟨vs, v, (h.sub s1).sq s2, e⟩
  yld := fun i F H x H' s1 s2 hi y => by
    obtain ⟨rfl, y⟩ := y
    obtain ⟨d, e, q⟩ := r.getV (y vs ((h.sub s1).sq s2))
    exact ⟨d, F, e, .refl _ _, Rep.sub s1 _ _ q⟩
  stop := fun i F H s1 s2 hi => ⟨vs, (h.sub s1).sq s2, by rw [← r.len]; exact hi⟩
theorem itd_str {K : PySem.W.Frag} {F0 : Hp} {x : List Nat} : ItD K F0 (Its (mkS x)) (x.map fun c => .str [c]) where
  go := fun i F H s1 s2 hi => by
    show i < (mkS x).cps.size
    simpa [mkS] using hi
  yld := fun i F H v H' s1 s2 hi y => by
    obtain ⟨rfl, c, e, rfl⟩ := y
    refine ⟨.str [c], F, ?_, .refl _ _, rfl⟩
    have e : x[i]? = some c := by simpa [mkS] using e
    rw [List.getElem?_map, e]; rfl
  stop := fun i F H s1 s2 hi => by
    show (mkS x).cps.size ≤ i
    simpa [mkS] using hi
theorem pid_list (h : PD X n e we) : PID X n tg e (wItL we) :=
  pid_of (pi_list h.pe) fun σ H F ρ st Q E R tk hw => by
    refine tE.use R tk hw fun v w1 st1 H1 F1 ρ1 p1 R1 r1 h1 => ?_
    split at h1
    · rename_i xs
      have r1 : Rep X.K F1 (.lst xs) v := r1
      unfold Rep at r1
      obtain ⟨p, vs, rfl, e1, q⟩ := r1
      exact ⟨p, rfl, ⟨vs, .of (R1.ok.sub _ _ e1)⟩, xs, st1, F1, ρ1, p1, R1, itd_list e1 q, h1⟩
    · exact h1.elim
theorem pid_tup (h : PD X n e we) : PID X n tg e (wItT we) :=
  pid_of (pi_tup h.pe) fun σ H F ρ st Q E R tk hw => by
    refine tE.use R tk hw fun v w1 st1 H1 F1 ρ1 p1 R1 r1 h1 => ?_
    split at h1
    · rename_i xs
      have r1 : Rep X.K F1 (.tup xs) v := r1
      unfold Rep at r1
      obtain ⟨p, vs, rfl, e1, q⟩ := r1
      exact ⟨p, rfl, ⟨vs, e1.sq R1.ok.sub⟩, xs, st1, F1, ρ1, p1, R1, itd_tup e1 q, h1⟩
    · exact h1.elim
theorem pid_str (h : PD X n e we) : PID X n tg e (wItS we) :=
  pid_of (pi_str h.pe) fun σ H F ρ st Q E R tk hw => by
    refine tE.use R tk hw fun v w1 st1 H1 F1 ρ1 p1 R1 r1 h1 => ?_
    split at h1
    · rename_i x
      obtain rfl := (show v = .str (mkS x) from r1)
      exact ⟨_, rfl, _, st1, F1, ρ1, p1, R1, itd_str, h1⟩
    · exact h1.elim
/-- whatever of the three it is -/
def wIt (w : DE) : DI := fun st Q E => w st (fun v st1 => match v with
  | .d x => match items x with
    | some xs => Q xs st1
    | none => False
  | _ => False) E
theorem pid_any (h : PD X n e we) : PID X n tg e (wIt we) := by
  refine ⟨fun pins s σ H F ρ st Q E I R tk hw => ?_⟩
  refine thn (h.run pins s σ H F ρ st _ E I R tk hw) fun u s1 ⟨v, w1, st1, H1, F1, ρ1, I1, r, p1, R1, r1, h1⟩ => ?_
  dsimp only at h1
  split at h1
  · rename_i x
    split at h1
    · rename_i xs ex
      cases x <;> first | (cases ex; done) | skip
      · cases ex
        rename_i x
        obtain rfl := (show v = .str (mkS x) from r1)
        obtain ⟨t, rfl⟩ := r
        cases ha : (mkS x).cps.all (· < 128)
        · exact wpAny_pyIter_wide ha (pi_one (tk := s1.toks) I1 _ (turn_str _ _ t "str_iterator" (.inr rfl)) ⟨_, Heap.get?_push_size _ rfl, rfl, rfl⟩ ⟨_, st1, F1, ρ1, p1, R1, itd_str, h1⟩)
        · exact wpAny_pyIter_ascii ha (pi_one (tk := s1.toks) I1 _ (turn_str _ _ t "str_ascii_iterator" (.inl rfl)) ⟨_, Heap.get?_push_size _ rfl, rfl, rfl⟩ ⟨_, st1, F1, ρ1, p1, R1, itd_str, h1⟩)
      · cases ex
        have r1 : Rep X.K F1 (.tup xs) v := r1
        unfold Rep at r1
        obtain ⟨p, vs, rfl, e1, q⟩ := r1
        cases r
        obtain ⟨its, rv, pp, hz⟩ := I1.tuple (e1.sq R1.ok.sub)
        refine wpAny_pyIter_tuple (show s1.heap.IsTuple p its.toArray from pp) ?_
        refine ⟨s1.heap.objs.size, [s1.heap.objs.size], _, _, H1, rfl, I1.kept (t' := s1.toks) fun b o e => Heap.get?_push_of_some _ e, turn_tuple p _, ⟨_, Heap.get?_push_size _ rfl, rfl, rfl⟩, fun b hb => ?_, xs, st1, F1, ρ1, p1, R1, itd_tup e1 q, h1⟩
        have e : b = s1.heap.objs.size := by simpa using hb
        subst e
        exact I1.fpOk (Nat.le_refl _) (I1.hok.fresh (Nat.le_refl _))
      · cases ex
        have r1 : Rep X.K F1 (.lst xs) v := r1
        unfold Rep at r1
        obtain ⟨p, vs, rfl, e1, q⟩ := r1
        cases r
        obtain ⟨its, rv, pp, hz⟩ := I1.list (.of (R1.ok.sub _ _ e1))
        refine wpAny_pyIter_list pp.isList ?_
        refine ⟨s1.heap.objs.size, [s1.heap.objs.size], _, _, H1, rfl, I1.kept (t' := s1.toks) fun b o e => Heap.get?_push_of_some _ e, turn_list p _, ⟨_, Heap.get?_push_size _ rfl, rfl, rfl⟩, fun b hb => ?_, xs, st1, F1, ρ1, p1, R1, itd_list e1 q, h1⟩
        have e : b = s1.heap.objs.size := by simpa using hb
        subst e
        exact I1.fpOk (Nat.le_refl _) (I1.hok.fresh (Nat.le_refl _))
    · exact h1.elim
  · exact h1.elim
/-- range(j), range(i, j) -/
def rangeD (lo hi : Int) : List D := (List.range (hi - lo).toNat).map fun (k : Nat) => .int (lo + k)
def wRng1 (wa : DA) : DI := fun st Q E => wa st (fun ws st1 => match ws with
  | [.d (.int j)] => (-(2 ^ 62) ≤ j ∧ j < 2 ^ 62) ∧ Q (rangeD 0 j) st1
  | _ => False) E
def wRng2 (wa : DA) : DI := fun st Q E => wa st (fun ws st1 => match ws with
  | [.d (.int i), .d (.int j)] => (-(2 ^ 62) ≤ i ∧ i < 2 ^ 62 ∧ -(2 ^ 62) ≤ j ∧ j < 2 ^ 62) ∧ Q (rangeD i j) st1
  | _ => False) E
theorem itd_range {K : PySem.W.Frag} {F0 : Hp} {lo hi : Int} : ItD K F0 (Itr lo (hi - lo).toNat) (rangeD lo hi) where
  go := fun i F H s1 s2 h => by
    show i < (hi - lo).toNat
    simpa only [rangeD, List.length_map, List.length_range] using h
  yld := fun i F H x H' s1 s2 h y => by
    obtain ⟨rfl, rfl⟩ := y
    have h : i < (hi - lo).toNat := by simpa only [rangeD, List.length_map, List.length_range] using h
    exact ⟨.int (lo + i), F, by unfold rangeD; rw [List.getElem?_map, List.getElem?_range h]; rfl, .refl _ _, rfl⟩
  stop := fun i F H s1 s2 h => by
    show (hi - lo).toNat ≤ i
    simpa only [rangeD, List.length_map, List.length_range] using h
theorem pid_range1 {wa : DA} {p : Pos} (hg : Gl X "range") (hm : X.mg "range" = none) (ha : PAD X n [a] wa) (hs : starEach [a] X.env = [(false, eval a X.env)] := by rfl) : PID X n tg (.Call (.Name "range" p) [a] [] pos) (wRng1 wa) :=
  pid_of (pi_range1 hg hm ha.pa hs) fun σ H F ρ st Q E R tk hw => by
    refine tA.use R tk hw fun vs ws st1 H1 F1 ρ1 p1 R1 r1 h1 => ?_
    split at h1
    · rename_i j
      obtain ⟨v, r, rfl, q, rfl⟩ := r1
      obtain rfl := (show v = .int j from q)
      have e : Itr 0 j.toNat = Itr 0 (j - 0).toNat := by rw [Int.sub_zero]
      exact ⟨j, rfl, h1.1.1, h1.1.2, _, st1, F1, ρ1, p1, R1, by rw [e]; exact itd_range, h1.2⟩
    · exact h1.elim
theorem pid_range2 {wa : DA} {p : Pos} (hg : Gl X "range") (hm : X.mg "range" = none) (ha : PAD X n [a, b] wa) (hs : starEach [a, b] X.env = [(false, eval a X.env), (false, eval b X.env)] := by rfl) (hs2 : starEach [b] X.env = [(false, eval b X.env)] := by rfl) :
    PID X n tg (.Call (.Name "range" p) [a, b] [] pos) (wRng2 wa) :=
  pid_of (pi_range2 hg hm ha.pa hs hs2) fun σ H F ρ st Q E R tk hw => by
    refine tA.use R tk hw fun vs ws st1 H1 F1 ρ1 p1 R1 r1 h1 => ?_
    split at h1
    · rename_i i j
      obtain ⟨v, r, rfl, q, v2, r2, rfl, q2, rfl⟩ := r1
      obtain rfl := (show v = .int i from q)
      obtain rfl := (show v2 = .int j from q2)
      exact ⟨i, j, rfl, h1.1, _, st1, F1, ρ1, p1, R1, itd_range, h1.2⟩
    · exact h1.elim

def wForL (g : DG) (tb : DS) (B : DEnds) : List D → Dst → Prop
  | [], st => B.nx st
  | x :: xs, st => g (.d x) st (fun st1 => tb { B with nx := wForL g tb B xs, ct := wForL g tb B xs, bk := B.nx } st1) B.ex
structure forP (g : DG) (tb : DS) (B : DEnds) (xs : List D) (st : Dst) : Prop where
  run : wForL g tb B xs st
def wFor (wi : DI) (g : DG) (tb : DS) : DS := fun D st => wi st (fun xs st1 => forP g tb D xs st1) D.ex
theorem psd_for {iter : Expr} {wi : DI} {g : DG} (hp : PassesOwn (model X.prog X.w) X.A X.env X.xe) (hc : X.calm = true) (hi : PID X n tg iter wi) (hg : PGD X n tg g) (hb : PSSD X n body t)
    (hs : ∀ x, foldedSetIterable iter X.env x = pure x := by intro _; rfl) : PSD X n (.For tg iter body [] pos) (wFor wi g t) :=
  psd_of (ps_for hp hc hi.pi hg.pg hb.pss hs) fun σ H F ρ st D R tk hw => by
    refine ⟨F, ρ, st, _, _, R, tk, hw, fun J xs st1 H1 F1 ρ1 p1 R1 it h1 => ?_⟩
    have h1 := h1.run
    refine ⟨fun i m σ' H' => m = xs.length - i ∧ i ≤ xs.length ∧ ∃ F' ρ' st', Post F1 ρ1 H1 F' ρ' H' ∧ Rl X.K n F' ρ' st' σ' H' ∧ wForL g t D (xs.drop i) st', ⟨xs.length, by simp, Nat.zero_le _, F1, ρ1, st1, Post.refl _ _ _, R1, h1⟩, ?_⟩
    rintro i m σ2 H2 ⟨rfl, hi, F2, ρ2, st2, p2, R2, h2⟩
    have p12 := p1.trans p2 R1.ok.dom
    by_cases hlt : i < xs.length
    · refine .inr ⟨it.go i F2 H2 p2.le R2.ok.sub hlt, fun σ' H' => i + 1 ≤ xs.length ∧ ∃ F' ρ' st', Post F1 ρ1 H1 F' ρ' H' ∧ Rl X.K n F' ρ' st' σ' H' ∧ wForL g t D (xs.drop (i + 1)) st', fun σ' H' ⟨l, q⟩ => ⟨xs.length - (i + 1), by omega, rfl, l, q⟩, fun x H' y => ?_⟩
      obtain ⟨d, F3, ed, gr, rd⟩ := it.yld i F2 H2 x H' p2.le R2.ok.sub hlt y
      obtain ⟨p3, R3⟩ := R2.grow gr
      have ed : xs[i] = d := by rw [List.getElem?_eq_getElem hlt] at ed; exact Option.some.inj ed
      have edr : xs.drop i = d :: xs.drop (i + 1) := by rw [List.drop_eq_getElem_cons hlt, ed]
      rw [edr] at h2
      have p13 := p2.trans p3 R2.ok.dom
      refine ⟨F3, ρ2, st2, .d d, _, _, R3, tk, rd, h2, fun σ4 H4 F4 ρ4 st4 p4 R4 h4 => ?_⟩
      have p14 := p13.trans p4 R3.ok.dom
      have p04 := p1.trans p14 R1.ok.dom
      refine tS.use R4 (by exact tk) h4 (fun σ' H' F' ρ' st' q R' z => ?_) (fun v w' H' F' ρ' μ q p0 ok rw z => ⟨w', F', ρ', μ, p04.trans q R4.ok.dom, p0, ok, rw, z⟩) (fun σ' H' F' ρ' st' q R' z => ⟨F', ρ', st', p04.trans q R4.ok.dom, R', z⟩) (fun σ' H' F' ρ' st' q R' z => ?_)
      · exact ⟨hlt, F', ρ', st', p14.trans q R4.ok.dom, R', z⟩
      · exact ⟨hlt, F', ρ', st', p14.trans q R4.ok.dom, R', z⟩
    · have e : i = xs.length := by omega
      subst e
      rw [List.drop_length] at h2
      exact .inl ⟨it.stop _ F2 H2 p2.le R2.ok.sub (Nat.le_refl _), F2, ρ2, st2, p12, R2, h2⟩

def wWhileN (c : DT) (tb : DS) (D : DEnds) : Nat → Dst → Prop
  | 0, _ => False
  | k + 1, st => c st (fun b st1 => brD b (tb { D with nx := wWhileN c tb D k, ct := wWhileN c tb D k, bk := D.nx } st1) (D.nx st1)) D.ex
def wWhile (c : DT) (tb : DS) : DS := fun D st => ∃ k, wWhileN c tb D k st
theorem psd_while {wc : DT} (hp : PassesOwn (model X.prog X.w) X.A X.env X.xe) (hc : PTD X n c wc) (hb : PSSD X n body t) : PSD X n (.While c body [] pos) (wWhile wc t) :=
  psd_of (ps_while hp hc.pt hb.pss) fun σ H F ρ st D R tk hw => by
    obtain ⟨k0, h0⟩ := hw
    refine ⟨fun m σ' H' => ∃ F' ρ' st', Post F ρ H F' ρ' H' ∧ Rl X.K n F' ρ' st' σ' H' ∧ wWhileN wc t D m st', ⟨k0, F, ρ, st, Post.refl _ _ _, R, h0⟩, ?_⟩
    rintro m σ2 H2 ⟨F2, ρ2, st2, p2, R2, h2⟩
    cases m with
    | zero => exact h2.elim
    | succ m =>
      refine tT.use R2 tk h2 fun b st3 H3 F3 ρ3 p3 R3 h3 => ?_
      have p23 := p2.trans p3 R2.ok.dom
      cases b with
      | false => have h3 := brD_f h3; exact ⟨F3, ρ3, st3, p23, R3, h3⟩
      | true =>
        have h3 := brD_t h3
        refine ⟨fun σ' H' => ∃ F' ρ' st', Post F ρ H F' ρ' H' ∧ Rl X.K n F' ρ' st' σ' H' ∧ wWhileN wc t D m st', fun σ' H' q => ⟨m, Nat.lt_succ_self _, q⟩, ?_⟩
        exact tS.use R3 (by exact tk) h3 (fun σ' H' F' ρ' st' q R' z => ⟨F', ρ', st', p23.trans q R3.ok.dom, R', z⟩) (fun v w' H' F' ρ' μ q p0 ok rw z => ⟨w', F', ρ', μ, p23.trans q R3.ok.dom, p0, ok, rw, z⟩)
          (fun σ' H' F' ρ' st' q R' z => ⟨F', ρ', st', p23.trans q R3.ok.dom, R', z⟩) (fun σ' H' F' ρ' st' q R' z => ⟨F', ρ', st', p23.trans q R3.ok.dom, R', z⟩)
end
end Dl
namespace Dl
open PySem PySem.Spec PyProof.Rows L2
variable [TheW]

structure PGW (X : Cx) (n : En) (target : Expr) (vs : List Nat) (g : DG) : Prop where
  run : ∀ (pins : List (Addr × Obj)) (s : Shared) (σ : L2.St) (H F : Hp) (ρ : List Addr) (st : Dst) (w : W) (v : V) (u : Value) (Q : Dst → Prop) (E : DX), Inv X pins σ H s → Rl X.K n F ρ st σ H → TkD X n E → RelV v u → RepW X.K F ρ w v → g w st Q E →
    wpAny (model X.prog X.w) X.A (assign target X.env u) (fun _ s' => ∃ σ' H' F' ρ' st', Inv X pins σ' H' s' ∧ Post F ρ H F' ρ' H' ∧ Rl X.K n F' ρ' st' σ' H' ∧ Q st' ∧ σ'.length = σ.length ∧ ∀ j, j ∉ vs → σ'[j]? = σ[j]?) X.xe s
def tGW (X : Cx) (n : En) (vs : List Nat) (g : DG) : TG := fun v σ H Q => ∃ F ρ st w DQ E, Rl X.K n F ρ st σ H ∧ TkD X n E ∧ RepW X.K F ρ w v ∧ g w st DQ E ∧ ∀ σ' H' F' ρ' st', Post F ρ H F' ρ' H' → Rl X.K n F' ρ' st' σ' H' → DQ st' → σ'.length = σ.length → (∀ j, j ∉ vs → σ'[j]? = σ[j]?) → Q σ' H'
section
variable {X : Cx} {n : En} {e a b c tg : Expr} {pos : Pos} {vs : List Nat} {g : DG}
theorem PGW.pg (h : PGW X n tg vs g) : PG X tg (tGW X n vs g) := by
  refine ⟨fun pins s σ H v u Q I r ⟨F, ρ, st, w, DQ, E, R, tk, rw, hw, k⟩ => ?_⟩
  exact thn (h.run pins s σ H F ρ st w v u DQ E I R tk r rw hw) fun _ s1 ⟨σ', H', F', ρ', st', I', p, R', q, l, z⟩ => ⟨σ', H', I', k _ _ _ _ _ p R' q l z⟩
theorem pgw_name {i : Nat} {x : Str} (hN : X.N.Nodup) (hv : i ∈ vs := by decide) (hi : X.N[i]? = some x := by rfl) (hx : Loc X.env.scope x := by first | exact Or.inl rfl | exact Or.inr rfl) (hf : X.fn x = true ∨ X.env.scope.names.lookup x = some .local := by first | exact .inl rfl | exact .inr rfl | assumption) : PGW X n (.Name x pos) vs (gN i) := by
  refine ⟨fun pins s σ H F ρ st w v u Q E I R tk r rw hw => ?_⟩
  refine thn ((pg_name (pos := pos) hN hi hx hf).run pins s σ H v u (fun σ' H' => σ' = σ.set i (some v) ∧ H' = H) I r ⟨rfl, rfl⟩) fun _ s1 ⟨σ', H', I', e1, e2⟩ => ?_
  subst e1 e2
  exact ⟨_, _, F, ρ, _, I', Post.refl _ _ _, R.set i rw, hw, by simp, fun j hj => by rw [List.getElem?_set_ne (fun z : i = j => hj (by rw [← z]; exact hv))]⟩
structure PGsW (X : Cx) (n : En) (ts : List Expr) (vs : List Nat) (g : DGs) : Prop where
  run : ∀ (pins : List (Addr × Obj)) (s : Shared) (σ : L2.St) (H F : Hp) (ρ : List Addr) (st : Dst) (ds : List D) (xs : List V) (us : List Value) (Q : Dst → Prop) (E : DX), Inv X pins σ H s → Rl X.K n F ρ st σ H → TkD X n E → Vals xs us → RepL X.K F ds xs → g ds st Q E →
    wpAny (model X.prog X.w) X.A (assignInOrder ((assignEach ts X.env).map (·.2)) us) (fun _ s' => ∃ σ' H' F' ρ' st', Inv X pins σ' H' s' ∧ Post F ρ H F' ρ' H' ∧ Rl X.K n F' ρ' st' σ' H' ∧ Q st' ∧ σ'.length = σ.length ∧ ∀ j, j ∉ vs → σ'[j]? = σ[j]?) X.xe s
theorem pgsw_nil : PGsW X n [] vs gsNil := by
  refine ⟨fun pins s σ H F ρ st ds xs us Q E I R tk r rw hw => ?_⟩
  cases ds with
  | cons _ _ => exact hw.elim
  | nil =>
    unfold RepL at rw; subst rw
    cases r
    exact assignInOrder_nil ⟨σ, H, F, ρ, st, I, Post.refl _ _ _, R, hw, rfl, fun _ _ => rfl⟩
theorem pgsw_cons {es : List Expr} {gs : DGs} (h1 : PGW X n e vs g) (h2 : PGsW X n es vs gs)
    (hs : (assignEach (e :: es) X.env).map (·.2) = assign e X.env :: (assignEach es X.env).map (·.2) := by rfl) : PGsW X n (e :: es) vs (gsCons g gs) := by
  refine ⟨fun pins s σ H F ρ st ds xs us Q E I R tk r rw hw => ?_⟩
  cases ds with
  | nil => exact hw.elim
  | cons d ds =>
    unfold RepL at rw
    obtain ⟨v, vr, rfl, r1, r2⟩ := rw
    cases r with
    | cons rv rr =>
      rw [hs]
      refine assignInOrder_cons (thn (h1.run pins s σ H F ρ st (.d d) v _ _ E I R tk rv r1 hw) fun _ s1 ⟨σ1, H1, F1, ρ1, st1, I1, p1, R1, q1, l1, z1⟩ => ?_)
      exact thn (h2.run pins s1 σ1 H1 F1 ρ1 st1 ds vr _ Q E I1 R1 tk rr (RepL.sub p1.le _ _ r2) q1) fun _ s2 ⟨σ2, H2, F2, ρ2, st2, I2, p2, R2, q2, l2, z2⟩ => ⟨σ2, H2, F2, ρ2, st2, I2, p1.trans p2 R1.ok.dom, R2, q2, l2.trans l1, fun j hj => (z2 j hj).trans (z1 j hj)⟩
theorem pgw_tup {es : List Expr} {k m : Nat} {gs : DGs} (hc : X.calm = true) (h : PGsW X n es vs gs)
    (hn : (assignEach es X.env).length = m := by rfl) (hst : (assignEach es X.env).findIdx? (·.1) = none := by rfl) : PGW X n (.Tuple es k pos) vs (gT m gs) := by
  refine ⟨fun pins s σ H F ρ st w v u Q E I R tk r rw hw => ?_⟩
  unfold gT at hw
  split at hw
  · rename_i xs
    obtain ⟨hl, hw⟩ := hw
    have rw : Rep X.K F (.tup xs) v := rw
    unfold Rep at rw
    obtain ⟨p, us, rfl, e1, q⟩ := rw
    cases r
    obtain ⟨its, rv, ht, hz⟩ := I.tuple (e1.sq R.ok.sub)
    refine assign_Tuple_tuple (I.ok.hd hc) ht (by simp [hn, ← hl, ← rv.length, q.len]) hst fun h' hx => ?_
    have I1 : Inv X pins σ H { s with heap := h' } := I.kept (t' := s.toks) fun b o e => hx b o (Nat.ne_of_lt (Heap.lt_size e)) e
    exact h.run pins _ σ H F ρ st xs us _ Q E I1 R tk (by simpa using rv) q hw
  · exact hw.elim
end
def wipeD (δ : List (Option W)) : List Nat → List (Option W)
  | [] => δ
  | v :: vs => (wipeD δ vs).set v none
theorem wipeD_len (δ : List (Option W)) : ∀ vs, (wipeD δ vs).length = δ.length
  | [] => rfl
  | v :: vs => by unfold wipeD; rw [List.length_set, wipeD_len δ vs]
theorem wipeD_some {δ : List (Option W)} {i : Nat} {w : W} : ∀ {vs : List Nat}, (wipeD δ vs)[i]? = some (some w) → δ[i]? = some (some w) ∧ i ∉ vs
  | [], h => ⟨h, by simp⟩
  | v :: vs, h => by
    unfold wipeD at h
    by_cases hi : v = i
    · subst hi
      by_cases hv : v < (wipeD δ vs).length
      · rw [List.getElem?_set_self hv] at h; cases h
      · rw [List.getElem?_eq_none (by simpa using hv)] at h; cases h
    · rw [List.getElem?_set_ne hi] at h
      obtain ⟨h1, h2⟩ := wipeD_some h
      exact ⟨h1, by simp only [List.mem_cons, not_or]; exact ⟨fun e => hi e.symm, h2⟩⟩
theorem wipe_at {σ : L2.St} {i : Nat} : ∀ {vs : List Nat}, i ∉ vs → (wipe σ vs)[i]? = σ[i]?
  | [], _ => rfl
  | v :: vs, h => by
    unfold wipe
    rw [List.getElem?_set_ne (fun e => h (by rw [e]; exact List.mem_cons_self)), wipe_at fun z => h (List.mem_cons_of_mem _ z)]
theorem wipe_in {σ : L2.St} {i : Nat} : ∀ {vs : List Nat}, i ∈ vs → i < σ.length → (wipe σ vs)[i]? = some none
  | v :: vs, h, hl => by
    unfold wipe
    by_cases e : v = i
    · subst e
      rw [List.getElem?_set_self (by rw [wipe_length]; exact hl)]
    · rw [List.getElem?_set_ne e]
      exact wipe_in ((List.mem_cons.mp h).resolve_left fun z => e z.symm) hl
theorem wipe_eq {σ σ' : L2.St} {vs : List Nat} (l : σ'.length = σ.length) (h : ∀ j, j ∉ vs → σ'[j]? = σ[j]?) : wipe σ' vs = wipe σ vs := by
  refine List.ext_getElem? fun i => ?_
  by_cases hi : i ∈ vs
  · by_cases hl : i < σ.length
    · rw [wipe_in hi hl, wipe_in hi (by rw [l]; exact hl)]
    · rw [List.getElem?_eq_none (by rw [wipe_length, l]; omega), List.getElem?_eq_none (by rw [wipe_length]; omega)]
  · rw [wipe_at hi, wipe_at hi, h i hi]
theorem wipe_wipe {σ : L2.St} (vs : List Nat) : wipe (wipe σ vs) vs = wipe σ vs := wipe_eq (wipe_length σ vs) fun j hj => wipe_at hj
section
variable {K : PySem.W.Frag} {n : En} {F F1 : Hp} {ρ ρ1 : List Addr} {st : Dst} {σ : L2.St} {H H1 : Hp} {μ : List O}
theorem Rl.wipe (R : Rl K n F ρ st σ H) (vs : List Nat) : Rl K n F ρ ⟨wipeD st.δ vs, st.μ⟩ (L2.wipe σ vs) H :=
  ⟨R.ok, R.po, by show (wipeD st.δ vs).length = _; rw [wipeD_len, wipe_length, R.len], fun i w e => by
    obtain ⟨h1, h2⟩ := wipeD_some e
    obtain ⟨v, h3, h4⟩ := R.slots i w h1
    exact ⟨v, by rw [wipe_at h2]; exact h3, h4⟩⟩
/-- an object of the heap that is neither data nor in the store stays -/
theorem Post.own (p : Post F ρ H F1 ρ1 H1) {a : Addr} {o : HO} (f : F a = none) (h : H a = some o) (r : a ∉ ρ) (nt : ∀ ps, o ≠ .tbl ps := by intro _ z; cases z) : F1 a = none ∧ H1 a = some o ∧ a ∉ ρ1 := by
  refine ⟨?_, p.keep a o h r nt, fun z => ?_⟩
  · cases q : F1 a with
    | none => rfl
    | some u =>
      rcases p.new a (by rw [q]; simp) with z | z | z
      · exact absurd f z
      · rw [z] at h; cases h
      · exact absurd z r
  · rw [p.fresh a z r] at h; cases h
/-- such an object is written -/
theorem Post.wrote {F0 H0 : Hp} {ρ0 : List Addr} (p : Post F0 ρ0 H0 F ρ H) {a : Addr} {o : HO} (h0 : H0 a = none) : Post F0 ρ0 H0 F ρ (L2.upd H a o) :=
  ⟨p.le, p.pre, p.new, fun b u e r => by rw [upd_ne (ne_of_none e h0)]; exact p.keepT b u e r, p.fresh⟩
theorem StOk.wrote (s : StOk K F ρ μ H) {a : Addr} {o : HO} (f : F a = none) (r : a ∉ ρ) (nt : ∀ ps, H a ≠ some (.tbl ps)) : StOk K F ρ μ (L2.upd H a o) := by
  have ne : ∀ b, b ∈ ρ → b ≠ a := fun b hb e => r (e ▸ hb)
  refine ⟨fun b u e => by rw [upd_ne (ne_of_none e f)]; exact s.sub b u e, s.len, s.nd, fun b hb => by rw [upd_ne (ne b hb)]; exact s.dom b hb, fun i b u e1 e2 => ?_, s.tabs.ext (SubH.refl _) fun b ps f e => ?_, fun b hb ps => by rw [upd_ne (ne b hb)]; exact s.notab b hb ps⟩
  · exact (s.obj i b u e1 e2).mono (SubH.refl _) (fun z => z) fun w e => by rw [upd_ne (ne b (List.mem_of_getElem? e1))]; exact e
  · rw [upd_ne (fun z : b = a => nt ps (by rw [← z]; exact e))]; exact ⟨f, e⟩
/-- it becomes data -/
theorem Post.froze {F0 H0 : Hp} {ρ0 : List Addr} (p : Post F0 ρ0 H0 F ρ H) {a : Addr} {o : HO} (h0 : H0 a = none) (f : F a = none) : Post F0 ρ0 H0 (L2.upd F a o) ρ H :=
  ⟨fun b u e => by
    have := p.le b u e
    rw [upd_ne (ne_of_none this f)]; exact this, p.pre, fun b e => by
    by_cases z : b = a
    · subst z; exact .inr (.inl h0)
    · rw [upd_ne z] at e; exact p.new b e, p.keepT, p.fresh⟩
theorem StOk.froze (s : StOk K F ρ μ H) {a : Addr} {o : HO} (f : F a = none) (h : H a = some o) (r : a ∉ ρ) (nt : ∀ ps, o ≠ .tbl ps := by intro _ z; cases z) : StOk K (L2.upd F a o) ρ μ H := by
  have ne : ∀ b, b ∈ ρ → b ≠ a := fun b hb e => r (e ▸ hb)
  have sub : SubH F (L2.upd F a o) := fun b u e => by rw [upd_ne (ne_of_none e f)]; exact e
  refine ⟨fun b u e => ?_, s.len, s.nd, s.dom, fun i b u e1 e2 => ?_, s.tabs.ext sub fun b ps f e => ?_, s.notab⟩
  · by_cases z : b = a
    · subst z; rw [upd_same] at e; cases e; exact h
    · rw [upd_ne z] at e; exact s.sub b u e
  · exact (s.obj i b u e1 e2).mono sub (fun z => by rw [upd_ne (ne b (List.mem_of_getElem? e1))]; exact z) fun w e => e
  · rw [upd_ne (fun z => by rw [z, h] at e; cases e; exact nt ps rfl)]; exact ⟨f, e⟩
theorem Grow.keep (g : Grow F H F1 H1) {a : Addr} {o : HO} (f : F a = none) (h : H a = some o) : F1 a = none ∧ H1 a = some o := by
  induction g with
  | refl => exact ⟨f, h⟩
  | @lay F H F' H' p u hp g ih =>
    have ne : a ≠ p := ne_of_none h hp
    exact ih (by rw [upd_ne ne]; exact f) (by rw [upd_ne ne]; exact h)
end

def wLcL (g : DG) (tt : DT) (te : DE) (δ : List (Option W)) (Q : List D → List O → Prop) : List D → List D → List O → Prop
  | [], acc, μ => Q acc μ
  | x :: xs, acc, μ => g (.d x) ⟨δ, μ⟩ (fun st2 => tt st2 (fun b st3 => brD b (te st3 (fun y st4 => match y with
      | .d d => acc.length < 16777216 ∧ wLcL g tt te δ Q xs (acc ++ [d]) st4.μ
      | _ => False) (fun _ _ => False)) (wLcL g tt te δ Q xs acc st3.μ)) (fun _ _ => False)) (fun _ _ => False)
structure lcP (g : DG) (tt : DT) (te : DE) (δ : List (Option W)) (Q : List D → List O → Prop) (xs acc : List D) (μ : List O) : Prop where
  run : wLcL g tt te δ Q xs acc μ
def wLc (wi : DI) (g : DG) (tt : DT) (te : DE) (vs : List Nat) : DE := fun st Q E => wi st (fun xs st1 => lcP g tt te (wipeD st1.δ vs) (fun acc μ => Q (.d (.lst acc)) { st1 with μ := μ }) xs [] st1.μ) E
/-- the tests of a comprehension -/
structure PTsD (X : Cx) (n : En) (ifs : List Expr) (w : DT) : Prop where
  run : ∀ (pins : List (Addr × Obj)) (s : Shared) (σ : L2.St) (H F : Hp) (ρ : List Addr) (st : Dst) (Q : Bool → Dst → Prop) (E : DX), Inv X pins σ H s → Rl X.K n F ρ st σ H → TkD X n E → w st Q E →
    wpAny (model X.prog X.w) X.A (forIn ifs true fun c r => if r = true then do let ok ← isTrue c X.env (eval c X.env); pure (ForInStep.yield ok) else pure (ForInStep.yield r)) (TPD X n pins σ F ρ H Q) X.xe s
def wYes : DT := fun st Q _ => Q true st
section
variable {X : Cx} {n : En} {e a b c tg : Expr} {pos : Pos} {vs : List Nat} {g : DG}
theorem ptsd_nil : PTsD X n [] wYes := ⟨fun pins s σ H F ρ st Q E I R tk hw => wpAny_tests_nil ⟨st, H, F, ρ, I, Post.refl _ _ _, R, hw⟩⟩
theorem ptsd_one {w : DT} (h : PTD X n c w) : PTsD X n [c] w := ⟨fun pins s σ H F ρ st Q E I R tk hw => wpAny_tests_one (h.run pins s σ H F ρ st Q E I R tk hw)⟩
theorem PTsD.pts {ifs : List Expr} {w : DT} (h : PTsD X n ifs w) : PTs X ifs (tT X n w) := by
  refine ⟨fun pins s σ H Q I ⟨F, ρ, st, DQ, E, R, tk, hw, k⟩ => ?_⟩
  refine thn (h.run pins s σ H F ρ st DQ E I R tk hw) fun u s1 ⟨st', H', F', ρ', I', a, b, d⟩ => ?_
  exact ⟨H', I', k u st' H' F' ρ' a b d⟩
theorem takes_no {X : Cx} {n : En} (h : X.xe = fun _ _ => False) : TkD X n (fun _ _ => False) := fun u s' x => by
  obtain ⟨_, _, _, _, _, _, _, _, _, _, _, _, _, _, _, _, _, _, _, _, _, _, z⟩ := x
  exact z.elim
/-- the block's readings, in its own context -/
abbrev BlkP (X : Cx) (scope : Scope) (P : Cx → Prop) : Prop := ∀ (s : Shared) (H : Hp) (C : Addr) (cl : List (Str × Addr)) (fp : List Addr), P (X.blk s H scope (compEnvC scope cl C X.env) fp)
def tGWb (X : Cx) (n : En) (scope : Scope) (vs : List Nat) (g : DG) : TG := fun v σ H Q => ∃ F ρ st w DQ, Rl X.K n F ρ st σ H ∧ RepW X.K F ρ w v ∧ g w st DQ (fun _ _ => False) ∧ ∀ σ' H' F' ρ' st', Post F ρ H F' ρ' H' → Rl X.K n F' ρ' st' σ' H' → DQ st' → σ'.length = σ.length → (∀ j, j ∉ vs → σ'[j]? = σ[j]?) → Q σ' H'
def tTb (X : Cx) (n : En) (w : DT) : TT := fun σ H Q => ∃ F ρ st DQ, Rl X.K n F ρ st σ H ∧ w st DQ (fun _ _ => False) ∧
  ∀ b st' H' F' ρ', Post F ρ H F' ρ' H' → Rl X.K n F' ρ' st' σ H' → DQ b st' → Q b H'
def tEb (X : Cx) (n : En) (w : DE) : TE := fun σ H Q => ∃ F ρ st DQ, Rl X.K n F ρ st σ H ∧ w st DQ (fun _ _ => False) ∧
  ∀ v w' st' H' F' ρ', Post F ρ H F' ρ' H' → Rl X.K n F' ρ' st' σ H' → RepW X.K F' ρ' w' v → DQ w' st' → Q v H'
theorem lc_sim {wi : DI} {tt : DT} {te : DE} {scope : Scope} {σ : L2.St} {H F : Hp} {ρ : List Addr} {st : Dst} {Q : DQ} {E : DX} {k : VK} (R : Rl X.K n F ρ st σ H) (tk : TkD X n E) (h : wLc wi g tt te vs st Q E) (hk : ∀ v H', qE X n σ F ρ H Q v H' → k v H') :
    tLc (tID X n wi) (tGWb X n scope vs g) (tTb X n tt) (tEb X n te) vs σ H k := by
  refine ⟨F, ρ, st, _, E, R, tk, h, fun J xs st1 H1 F1 ρ1 p1 R1 it h1 => ?_⟩
  have h1 := h1.run
  intro L hL
  have fL : F1 L = none := by
    cases q : F1 L with
    | none => rfl
    | some u => rw [R1.ok.sub L u q] at hL; cases hL
  have rL : L ∉ ρ1 := fun z => R1.ok.dom L z hL
  refine ⟨fun i m H' => m = xs.length - i ∧ i ≤ xs.length ∧ ∃ F' ρ' μ acc us, Post F1 ρ1 H1 F' ρ' H' ∧ StOk X.K F' ρ' μ H' ∧ F' L = none ∧ L ∉ ρ' ∧ H' L = some (.lst us) ∧ RepL X.K F' acc us ∧
      wLcL g tt te (wipeD st1.δ vs) (fun acc μ => Q (.d (.lst acc)) { st1 with μ := μ }) (xs.drop i) acc μ,
    ⟨xs.length, by simp, Nat.zero_le _, F1, ρ1, st1.μ, [], [], (Post.refl _ _ _).wrote hL, R1.ok.wrote fL rL (by rw [hL]; intro _ z; cases z), fL, rL, upd_same, RepL.nil, h1⟩, ?_⟩
  rintro i m H2 ⟨rfl, hi, F2, ρ2, μ2, acc, us, p2, ok2, f2, r2, e2, ra, h2⟩
  by_cases hlt : i < xs.length
  · refine .inr ⟨it.go i F2 H2 p2.le ok2.sub hlt, fun H' => i + 1 ≤ xs.length ∧ ∃ F' ρ' μ acc us, Post F1 ρ1 H1 F' ρ' H' ∧ StOk X.K F' ρ' μ H' ∧ F' L = none ∧ L ∉ ρ' ∧ H' L = some (.lst us) ∧ RepL X.K F' acc us ∧
      wLcL g tt te (wipeD st1.δ vs) (fun acc μ => Q (.d (.lst acc)) { st1 with μ := μ }) (xs.drop (i + 1)) acc μ, fun H' ⟨l, q⟩ => ⟨xs.length - (i + 1), by omega, rfl, l, q⟩, fun x H' y => ?_⟩
    obtain ⟨d, F3, ed, gr, rd⟩ := it.yld i F2 H2 x H' p2.le ok2.sub hlt y
    have ed : xs[i] = d := by rw [List.getElem?_eq_getElem hlt] at ed; exact Option.some.inj ed
    have edr : xs.drop i = d :: xs.drop (i + 1) := by rw [List.drop_eq_getElem_cons hlt, ed]
    rw [edr] at h2
    have R2 : Rl X.K n F2 ρ2 ⟨wipeD st1.δ vs, μ2⟩ (L2.wipe σ vs) H2 := (R1.wipe vs).step p2 ok2
    obtain ⟨p3, R3⟩ := R2.grow gr
    have p13 := p2.trans p3 ok2.dom
    obtain ⟨f3, e3⟩ := gr.keep f2 e2
    refine ⟨F3, ρ2, _, .d d, _, R3, rd, h2, fun σ4 H4 F4 ρ4 st4 p4 R4 h4 l4 z4 => ⟨?_, ?_⟩⟩
    · exact (wipe_eq l4 z4).trans (wipe_wipe vs)
    have p14 := p13.trans p4 R3.ok.dom
    obtain ⟨f4, e4, r4⟩ := p4.own f3 e3 r2
    have p24 := p3.trans p4 R3.ok.dom
    refine ⟨F4, ρ4, st4, _, R4, h4, fun bb st5 H5 F5 ρ5 p5 R5 h5 => ?_⟩
    have p15 := p14.trans p5 R4.ok.dom
    obtain ⟨f5, e5, r5⟩ := p5.own f4 e4 r4
    have p25 := p24.trans p5 R4.ok.dom
    cases bb with
    | false => have h5 := brD_f h5; exact ⟨hlt, F5, ρ5, st5.μ, acc, us, p15, R5.ok, f5, r5, e5, RepL.sub p25.le _ _ ra, h5⟩
    | true =>
      have h5 := brD_t h5
      refine ⟨F5, ρ5, st5, _, R5, h5, fun v w6 st6 H6 F6 ρ6 p6 R6 rw h6 => ?_⟩
      have p16 := p15.trans p6 R5.ok.dom
      obtain ⟨f6, e6, r6⟩ := p6.own f5 e5 r5
      have p26 := p25.trans p6 R5.ok.dom
      cases w6 <;> first | exact h6.elim | skip
      rename_i d6
      have ra6 := RepL.sub p26.le _ _ ra
      refine ⟨us, e6, by rw [← ra6.len, sizeLine_eq]; exact h6.1, hlt, F6, ρ6, st6.μ, acc ++ [d6], us ++ [v], p16.wrote hL, R6.ok.wrote f6 r6 (by rw [e6]; intro _ z; cases z), f6, r6, upd_same, ra6.app (RepL.one rw), h6.2⟩
  · have e : i = xs.length := by omega
    subst e
    rw [List.drop_length] at h2
    refine .inl ⟨it.stop _ F2 H2 p2.le ok2.sub (Nat.le_refl _), hk _ _ ⟨.d (.lst acc), { st1 with μ := μ2 }, L2.upd F2 L (.lst us), ρ2, p1.trans (p2.froze hL f2) R1.ok.dom, R1.step (p2.froze hL f2) (ok2.froze f2 e2 r2), ?_, h2⟩⟩
    show Rep _ _ (.lst acc) _
    unfold Rep
    exact ⟨L, us, rfl, upd_same, RepL.sub (fun b u e => by rw [upd_ne (ne_of_none e f2)]; exact e) _ _ ra⟩
theorem blk_g {scope : Scope} (hg : BlkP X scope fun Y => PGW Y n tg vs g) : ∀ (s : Shared) (H : Hp) (C : Addr) (cl : List (Str × Addr)) (fp : List Addr), PG (X.blk s H scope (compEnvC scope cl C X.env) fp) tg (tGWb X n scope vs g) := fun s H C cl fp => by
  refine ⟨fun pins s' σ H' v u Q I r ⟨F, ρ, st, w, DQ, R, rw, hw, k⟩ => ?_⟩
  exact thn ((hg s H C cl fp).run pins s' σ H' F ρ st w v u DQ _ I R (takes_no rfl) r rw hw) fun _ s1 ⟨σ', H', F', ρ', st', I', p, R', q, l, z⟩ => ⟨σ', H', I', k _ _ _ _ _ p R' q l z⟩
theorem blk_t {scope : Scope} {ifs : List Expr} {tt : DT} (hg : BlkP X scope fun Y => PTsD Y n ifs tt) : ∀ (s : Shared) (H : Hp) (C : Addr) (cl : List (Str × Addr)) (fp : List Addr), PTs (X.blk s H scope (compEnvC scope cl C X.env) fp) ifs (tTb X n tt) := fun s H C cl fp => by
  refine ⟨fun pins s' σ H' Q I ⟨F, ρ, st, DQ, R, hw, k⟩ => ?_⟩
  exact thn ((hg s H C cl fp).run pins s' σ H' F ρ st DQ _ I R (takes_no rfl) hw) fun u s1 ⟨st', H', F', ρ', I', a, b, d⟩ => ⟨H', I', k u st' H' F' ρ' a b d⟩
theorem blk_e {scope : Scope} {elt : Expr} {te : DE} (hg : BlkP X scope fun Y => PD Y n elt te) : ∀ (s : Shared) (H : Hp) (C : Addr) (cl : List (Str × Addr)) (fp : List Addr), PE (X.blk s H scope (compEnvC scope cl C X.env) fp) elt (tEb X n te) := fun s H C cl fp => by
  refine ⟨fun pins s' σ H' Q I ⟨F, ρ, st, DQ, R, hw, k⟩ => ?_⟩
  exact thn ((hg s H C cl fp).run pins s' σ H' F ρ st DQ _ I R (takes_no rfl) hw) fun u s1 ⟨v, w', st', H', F', ρ', I', r, a, b, c, d⟩ => ⟨v, H', I', r, k v w' st' H' F' ρ' a b c d⟩
theorem pd_lc {elt iter : Expr} {ifs : List Expr} {scope : Scope} (own : List (Str × Nat)) {wi : DI} {tt : DT} {te : DE} (hc : X.calm = true) (hN : X.N.Nodup) (hi : PID X n tg iter wi) (ok : BlkOk X.N X.env.scope scope own)
    (hg : BlkP X scope fun Y => PGW Y n tg (own.map (·.2)) g) (ht : BlkP X scope fun Y => PTsD Y n ifs tt) (he : BlkP X scope fun Y => PD Y n elt te) (hs : ∀ x, foldedSetIterable iter X.env x = pure x := by intro _; rfl) :
    PD X n (.ListComp elt [⟨tg, iter, ifs, 0⟩] scope pos) (wLc wi g tt te (own.map (·.2))) :=
  pd_of (pe_lc hc hN hi.pi ok (blk_g hg) (blk_t ht) (blk_e he) hs) fun σ H F ρ st Q E R tk hw => lc_sim R tk hw fun _ _ q => q
theorem psd_setLc {i : Nat} {y : Str} {py spos : Pos} {elt iter : Expr} {ifs : List Expr} {scope : Scope} (own : List (Str × Nat)) {wi : DI} {tt : DT} {te : DE} (hc : X.calm = true) (hN : X.N.Nodup) (hi : PID X n tg iter wi) (ok : BlkOk X.N X.env.scope scope own)
    (hg : BlkP X scope fun Y => PGW Y n tg (own.map (·.2)) g) (ht : BlkP X scope fun Y => PTsD Y n ifs tt) (he : BlkP X scope fun Y => PD Y n elt te)
    (hsw : swapsWith (.ListComp elt [⟨tg, iter, ifs, 0⟩] scope pos) (some (.Name y py)) spos.line X.env = pure true) (hy : X.N[i]? = some y := by rfl) (hyl : X.env.scope.names.lookup y = some .local := by rfl) (hs : ∀ x, foldedSetIterable iter X.env x = pure x := by intro _; rfl) :
    PSD X n (.Assign [.Name y py] (.ListComp elt [⟨tg, iter, ifs, 0⟩] scope pos) spos) (wAsg (wLc wi g tt te (own.map (·.2))) (gN i)) :=
  psd_of (ps_setLc hc hN hy hyl hsw hi.pi ok (blk_g hg) (blk_t ht) (blk_e he) hs) fun σ H F ρ st D R tk hw => lc_sim (scope := scope) (k := fun x H1 => gName i x σ H1 (qD X n F ρ H D).nx) R tk hw fun v H' ⟨w', st', F', ρ', p, R', r, q⟩ => ⟨F', ρ', _, p, R'.set i r, q⟩
end
end Dl
namespace Dl
open PySem PySem.Spec PyProof.Rows L2
variable [TheW]

abbrev DSp := List W → List O → (W → List O → Prop) → (Ex → List O → Prop) → Prop
def SpD (K : PySem.W.Frag) (m : Nat) (c : DSp) : Sp := fun vs H Q E => ∃ F ρ μ ws QD ED, StOk K F ρ μ H ∧ RepWL K F ρ ws vs ∧ ws.length = m ∧ c ws μ QD ED ∧
  (∀ w μ' v F' ρ' H', QD w μ' → Post F ρ H F' ρ' H' → StOk K F' ρ' μ' H' → RepW K F' ρ' w v → Q v H') ∧ (∀ x μ' cls d F' ρ' H', ED x μ' → Post F ρ H F' ρ' H' → StOk K F' ρ' μ' H' → ExRep K F' x cls d H' → E cls d H')
structure FnD (P : Program) (w : World) (K : PySem.W.Frag) (mg : Str → Option Value) (base : Heap) (x : Str) (k m : Nat) (c : DSp) : Prop where
  ex : ∃ f fd ps, FnOk P w K mg base (L2.CX P w) k f fd ps (SpD K m c) ∧ mg x = some (.ref f) ∧ PySem.W.keepIn K (.ref f) = true ∧ Binds K fd ps []

def locs : List W → List Nat
  | [] => []
  | .loc n :: ws => if n ∈ locs ws then locs ws else n :: locs ws
  | _ :: ws => locs ws
def ren (ls : List Nat) : W → W
  | .loc n => .loc (ls.idxOf n)
  | w => w
def unren (ls : List Nat) (N : Nat) : W → W
  | .loc j => match ls[j]? with
    | some n => .loc n
    | none => .loc (N + (j - ls.length))
  | w => w
def putB (μ : List O) : List Nat → List O → List O
  | [], os => μ ++ os
  | l :: ls, o :: os => (putB μ ls os).set l o
  | _ :: _, [] => μ
theorem locs_nd : ∀ ws : List W, (locs ws).Nodup
  | [] => List.nodup_nil
  | .loc n :: ws => by
    unfold locs
    split
    · exact locs_nd ws
    · rename_i h; exact List.nodup_cons.mpr ⟨h, locs_nd ws⟩
  | .d _ :: ws => locs_nd ws
  | .scr _ :: ws => locs_nd ws
theorem locs_mem {n : Nat} : ∀ {ws : List W}, W.loc n ∈ ws → n ∈ locs ws
  | .loc m :: ws, h => by
    unfold locs
    rcases List.mem_cons.mp h with e | h
    · cases e
      split
      · assumption
      · exact List.mem_cons_self
    · split
      · exact locs_mem h
      · exact List.mem_cons_of_mem _ (locs_mem h)
  | .d _ :: ws, h => locs_mem (ws := ws) ((List.mem_cons.mp h).resolve_left fun z => by cases z)
  | .scr _ :: ws, h => locs_mem (ws := ws) ((List.mem_cons.mp h).resolve_left fun z => by cases z)
theorem mem_locs {n : Nat} : ∀ {ws : List W}, n ∈ locs ws → W.loc n ∈ ws
  | [], h => by cases h
  | .loc m :: ws, h => by
    unfold locs at h
    split at h
    · exact List.mem_cons_of_mem _ (mem_locs h)
    · rcases List.mem_cons.mp h with e | h
      · subst e; exact List.mem_cons_self
      · exact List.mem_cons_of_mem _ (mem_locs h)
  | .d _ :: ws, h => List.mem_cons_of_mem _ (mem_locs (ws := ws) h)
  | .scr _ :: ws, h => List.mem_cons_of_mem _ (mem_locs (ws := ws) h)
section
variable {K : PySem.W.Frag} {F F1 : Hp} {ρ ρ1 : List Addr} {H H1 : Hp} {μ : List O}
/-- the addresses of the view -/
def vw (ρ : List Addr) (ls : List Nat) : List Addr := ls.map fun l => ρ.getD l 0
def vwO (μ : List O) (ls : List Nat) : List O := ls.map fun l => μ.getD l .dead
theorem vw_get {ls : List Nat} {j l : Nat} (h : ls[j]? = some l) : (vw ρ ls)[j]? = some (ρ.getD l 0) := by
  unfold vw; rw [List.getElem?_map, h]; rfl
theorem getD_of {ρ : List Addr} {l : Nat} (h : l < ρ.length) : ρ[l]? = some (ρ.getD l 0) := by
  simp [List.getD, h]
theorem RepWL.mem : ∀ {ws : List W} {vs : List V} {n : Nat}, RepWL K F ρ ws vs → W.loc n ∈ ws → n < ρ.length
  | w :: ws, _, n, h, m => by
    obtain ⟨v, r, rfl, q, t⟩ := h
    rcases List.mem_cons.mp m with e | m
    · subst e
      obtain ⟨a, e, _⟩ := q
      exact (List.getElem?_eq_some_iff.mp e).1
    · exact t.mem m
theorem ren_rep {ls : List Nat} (hl : ∀ l ∈ ls, l < ρ.length) : ∀ {ws : List W} {vs : List V}, RepWL K F ρ ws vs → (∀ n, W.loc n ∈ ws → n ∈ ls) → RepWL K F (vw ρ ls) (ws.map (ren ls)) vs
  | [], _, h, _ => h
  | w :: ws, _, h, m => by
    obtain ⟨v, r, rfl, q, t⟩ := h
    refine ⟨v, r, rfl, ?_, ren_rep hl t fun n z => m n (List.mem_cons_of_mem _ z)⟩
    cases w with
    | d x => exact q
    | scr xs => exact q
    | loc n =>
      obtain ⟨a, e, rfl⟩ := q
      have hm := m n List.mem_cons_self
      have hi : ls[ls.idxOf n]? = some n := by
        have := List.idxOf_lt_length_of_mem hm
        rw [List.getElem?_eq_getElem this, List.getElem_idxOf]
      refine ⟨a, ?_, rfl⟩
      rw [vw_get hi, ← getD_of (hl n hm)]
      exact e
theorem vw_mem {ls : List Nat} (hl : ∀ l ∈ ls, l < ρ.length) {a : Addr} (h : a ∈ vw ρ ls) : a ∈ ρ := by
  unfold vw at h
  obtain ⟨l, h1, rfl⟩ := List.mem_map.mp h
  exact List.mem_of_getElem? (getD_of (hl l h1))
theorem vw_nd (nd : ρ.Nodup) : ∀ {ls : List Nat}, ls.Nodup → (∀ l ∈ ls, l < ρ.length) → (vw ρ ls).Nodup
  | [], _, _ => List.nodup_nil
  | l :: ls, h, hl => by
    obtain ⟨h1, h2⟩ := List.nodup_cons.mp h
    refine List.nodup_cons.mpr ⟨fun z => ?_, vw_nd nd h2 fun x hx => hl x (List.mem_cons_of_mem _ hx)⟩
    obtain ⟨l', m, e⟩ := List.mem_map.mp z
    have a1 := getD_of (ρ := ρ) (hl l List.mem_cons_self)
    have a2 := getD_of (ρ := ρ) (hl l' (List.mem_cons_of_mem _ m))
    rw [e] at a2
    have : l' = l := by
      obtain ⟨b1, c1⟩ := List.getElem?_eq_some_iff.mp a1
      obtain ⟨b2, c2⟩ := List.getElem?_eq_some_iff.mp a2
      exact (List.getElem_inj nd).mp (c2.trans c1.symm)
    exact h1 (this ▸ m)
theorem StOk.view (s : StOk K F ρ μ H) {ls : List Nat} (hn : ls.Nodup) (hl : ∀ l ∈ ls, l < ρ.length) : StOk K F (vw ρ ls) (vwO μ ls) H := by
  refine ⟨s.sub, by simp [vw, vwO], vw_nd s.nd hn hl, fun a h => s.dom a (vw_mem hl h), fun i a o e1 e2 => ?_, s.tabs, fun a h => s.notab a (vw_mem hl h)⟩
  have e2 : (ls.map fun l => μ.getD l .dead)[i]? = some o := e2
  rw [List.getElem?_map] at e2
  cases q : ls[i]? with
  | none => rw [q] at e2; cases e2
  | some l =>
    rw [q] at e2
    have e2 : μ.getD l .dead = o := Option.some.inj e2
    rw [vw_get q] at e1
    have lt := hl l (List.mem_of_getElem? q)
    refine s.obj l a o (by rw [getD_of lt]; exact e1) ?_
    have : l < μ.length := by rw [← s.len]; exact lt
    rw [← e2]; simp [List.getD, this]
theorem putB_len {μ : List O} : ∀ {ls : List Nat} {os : List O}, ls.length ≤ os.length → (putB μ ls os).length = μ.length + (os.length - ls.length)
  | [], os, _ => by simp [putB]
  | l :: ls, [], h => by simp at h
  | l :: ls, o :: os, h => by
    unfold putB
    rw [List.length_set, putB_len (by simpa using h)]
    simp
theorem putB_new {μ : List O} : ∀ {ls : List Nat} {os : List O} {i : Nat}, ls.length ≤ os.length → (∀ l ∈ ls, l < μ.length) → (putB μ ls os)[μ.length + i]? = os[ls.length + i]?
  | [], os, i, _, _ => by
    show (μ ++ os)[μ.length + i]? = os[0 + i]?
    rw [List.getElem?_append_right (by omega)]
    congr 1; omega
  | l :: ls, [], i, h, _ => by simp at h
  | l :: ls, o :: os, i, h, hl => by
    unfold putB
    have := hl l List.mem_cons_self
    rw [List.getElem?_set_ne (by omega), putB_new (by simpa using h) fun x hx => hl x (List.mem_cons_of_mem _ hx)]
    rw [show (l :: ls).length + i = (ls.length + i) + 1 by simp; omega]
    simp
theorem putB_old {μ : List O} : ∀ {ls : List Nat} {os : List O} {i : Nat}, ls.length ≤ os.length → i ∉ ls → i < μ.length → (putB μ ls os)[i]? = μ[i]?
  | [], os, i, _, _, h => by simp [putB, List.getElem?_append_left h]
  | l :: ls, [], i, h, _, _ => by simp at h
  | l :: ls, o :: os, i, h, hn, hi => by
    unfold putB
    rw [List.getElem?_set_ne (fun z => hn (by rw [z]; exact List.mem_cons_self)), putB_old (by simpa using h) (fun z => hn (List.mem_cons_of_mem _ z)) hi]
theorem putB_in {μ : List O} : ∀ {ls : List Nat} {os : List O} {j l : Nat}, ls.Nodup → ls.length ≤ os.length → (∀ l ∈ ls, l < μ.length) → ls[j]? = some l → (putB μ ls os)[l]? = os[j]?
  | [], os, j, l, _, _, _, h => by simp at h
  | x :: ls, [], j, l, _, h, _, _ => by simp at h
  | x :: ls, o :: os, 0, l, hn, hz, hl, h => by
    simp at h; subst h
    unfold putB
    have hx := hl x List.mem_cons_self
    rw [List.getElem?_set_self (by rw [putB_len (by simpa using hz)]; omega)]
    rfl
  | x :: ls, o :: os, j + 1, l, hn, hz, hl, h => by
    unfold putB
    have h : ls[j]? = some l := by simpa using h
    obtain ⟨n1, n2⟩ := List.nodup_cons.mp hn
    rw [List.getElem?_set_ne (fun z => n1 (by rw [z]; exact List.mem_of_getElem? h)), putB_in n2 (by simpa using hz) (fun x hx => hl x (List.mem_cons_of_mem _ hx)) h]
    simp
/-- behind a call that saw a view -/
theorem view_back (s : StOk K F ρ μ H) {ls : List Nat} (hn : ls.Nodup) (hl : ∀ l ∈ ls, l < ρ.length) {ρ' : List Addr} {μ' : List O} (p : Post F (vw ρ ls) H F1 ρ' H1) (s' : StOk K F1 ρ' μ' H1) :
    ∃ t, ρ' = vw ρ ls ++ t ∧ Post F ρ H F1 (ρ ++ t) H1 ∧ StOk K F1 (ρ ++ t) (putB μ ls μ') H1 := by
  obtain ⟨t, e⟩ := p.pre
  have lv : (vw ρ ls).length = ls.length := by simp [vw]
  have l' : μ'.length = ls.length + t.length := by rw [← s'.len, e, List.length_append, lv]
  have hz : ls.length ≤ μ'.length := by omega
  have hlm : ∀ l ∈ ls, l < μ.length := fun l h => by rw [← s.len]; exact hl l h
  have ht : ∀ a, a ∈ t → a ∈ ρ' ∧ a ∉ vw ρ ls ∧ H a = none := fun a ha => by
    have h1 : a ∈ ρ' := by rw [e]; exact List.mem_append_right _ ha
    have h2 : a ∉ vw ρ ls := fun z => by
      have := s'.nd
      rw [e] at this
      exact (List.nodup_append.mp this).2.2 a z a ha rfl
    exact ⟨h1, h2, p.fresh a h1 h2⟩
  have P : Post F ρ H F1 (ρ ++ t) H1 := by
    refine ⟨p.le, ⟨t, rfl⟩, fun b h => ?_, fun b o h nb => p.keepT b o h fun z => nb (vw_mem hl z), fun b h nb => ?_⟩
    · rcases p.new b h with z | z | z
      · exact .inl z
      · exact .inr (.inl z)
      · exact .inr (.inr (vw_mem hl z))
    · rcases List.mem_append.mp h with z | z
      · exact absurd z nb
      · exact (ht b z).2.2
  refine ⟨t, e, P, s'.sub, ?_, ?_, fun a h => ?_, fun i a o e1 e2 => ?_, s'.tabs, fun a h ps => ?_⟩
  · rw [List.length_append, putB_len hz, s.len]; omega
  · refine List.nodup_append.mpr ⟨s.nd, ?_, fun a ha b hb z => ?_⟩
    · have := s'.nd
      rw [e] at this
      exact (List.nodup_append.mp this).2.1
    · subst z
      exact s.dom a ha (ht a hb).2.2
  · rcases List.mem_append.mp h with z | z
    · by_cases hv : a ∈ vw ρ ls
      · exact s'.dom a (by rw [e]; exact List.mem_append_left _ hv)
      · cases q : H a with
        | none => exact absurd q (s.dom a z)
        | some u => exact p.dom q hv
    · exact s'.dom a (ht a z).1
  · by_cases hi : i < ρ.length
    · rw [List.getElem?_append_left hi] at e1
      by_cases hm : i ∈ ls
      · obtain ⟨j, hj, ej⟩ := List.mem_iff_getElem.mp hm
        have ej : ls[j]? = some i := by rw [List.getElem?_eq_getElem hj, ej]
        rw [putB_in hn hz hlm ej] at e2
        refine s'.obj j a o ?_ e2
        rw [e, List.getElem?_append_left (by rw [lv]; exact hj), vw_get ej, ← getD_of hi]
        exact e1
      · rw [putB_old hz hm (by rw [← s.len]; exact hi)] at e2
        have am : a ∈ ρ := List.mem_of_getElem? e1
        have nv : a ∉ vw ρ ls := fun z => by
          obtain ⟨l, h1, h2⟩ := List.mem_map.mp z
          have h3 := getD_of (ρ := ρ) (hl l h1)
          rw [h2] at h3
          obtain ⟨b1, c1⟩ := List.getElem?_eq_some_iff.mp h3
          obtain ⟨b2, c2⟩ := List.getElem?_eq_some_iff.mp e1
          have : l = i := (List.getElem_inj s.nd).mp (c1.trans c2.symm)
          exact hm (this ▸ h1)
        refine (s.obj i a o e1 e2).mono p.le (fun z => ?_) fun u hu => p.keep a u hu nv fun ps e => s.notab a am ps (e ▸ hu)
        cases q : F1 a with
        | none => rfl
        | some u =>
          rcases p.new a (by rw [q]; simp) with y | y | y
          · exact absurd z y
          · exact absurd y (s.dom a am)
          · exact absurd y nv
    · rw [List.getElem?_append_right (by omega)] at e1
      have e2 : (putB μ ls μ')[μ.length + (i - ρ.length)]? = some o := by rw [← s.len, show ρ.length + (i - ρ.length) = i by omega]; exact e2
      rw [putB_new hz hlm] at e2
      refine s'.obj _ a o ?_ e2
      rw [e, List.getElem?_append_right (by rw [lv]; omega), lv, show ls.length + (i - ρ.length) - ls.length = i - ρ.length by omega]
      exact e1
  · rcases List.mem_append.mp h with z | z
    · by_cases hv : a ∈ vw ρ ls
      · exact s'.notab a (by rw [e]; exact List.mem_append_left _ hv) ps
      · cases q : H a with
        | none => exact absurd q (s.dom a z)
        | some u => rw [p.keep a u q hv fun qs e => s.notab a z qs (e ▸ q)]; exact fun y => s.notab a z ps (by rw [q]; exact y)
    · exact s'.notab a (ht a z).1 ps
theorem unren_rep {ls : List Nat} {t : List Addr} (hl : ∀ l ∈ ls, l < ρ.length) {w : W} {v : V} (h : RepW K F (vw ρ ls ++ t) w v) : RepW K F (ρ ++ t) (unren ls ρ.length w) v := by
  have lv : (vw ρ ls).length = ls.length := by simp [vw]
  cases w with
  | d x => exact h
  | scr xs => exact h
  | loc j =>
    obtain ⟨a, e, rfl⟩ := h
    show RepW K F (ρ ++ t) (match ls[j]? with
      | some n => .loc n
      | none => .loc (ρ.length + (j - ls.length))) (.ref a)
    cases q : ls[j]? with
    | some l =>
      have hj := (List.getElem?_eq_some_iff.mp q).1
      rw [List.getElem?_append_left (by rw [lv]; exact hj), vw_get q, ← getD_of (hl l (List.mem_of_getElem? q))] at e
      refine ⟨a, ?_, rfl⟩
      rw [List.getElem?_append_left (hl l (List.mem_of_getElem? q))]; exact e
    | none =>
      have hj : ls.length ≤ j := List.getElem?_eq_none_iff.mp q
      rw [List.getElem?_append_right (by rw [lv]; exact hj), lv] at e
      refine ⟨a, ?_, rfl⟩
      rw [List.getElem?_append_right (by omega)]
      rw [show ρ.length + (j - ls.length) - ρ.length = j - ls.length by omega]; exact e
end

structure wFn (c : DSp) (ws : List W) (st1 : Dst) (Q : DQ) (E : DX) : Prop where
  ap :   c (ws.map (ren (locs ws))) (vwO st1.μ (locs ws)) (fun w μ' => Q (unren (locs ws) st1.μ.length w) { st1 with μ := putB st1.μ (locs ws) μ' }) (fun x μ' => E x { st1 with μ := putB st1.μ (locs ws) μ' })
def wCallD (c : DSp) (wa : DA) : DE := fun st Q E => wa st (fun ws st1 => wFn c ws st1 Q E) E
section
variable {X : Cx} {n : En} {e o : Expr} {es : List Expr} {pos p : Pos}
/-- the callee's promise at the call -/
theorem call_sp {m : Nat} {c : DSp} {σ : L2.St} {H F : Hp} {ρ : List Addr} {st : Dst} {vs : List V} {ws : List W} {Q : DQ} {E : DX} (R : Rl X.K n F ρ st σ H) (r : RepWL X.K F ρ ws vs) (hm : ws.length = m) (h : wFn c ws st Q E) {EX : XK}
    (hE : ∀ cls d H', (∃ st' F' ρ' x, Rl X.K n F' ρ' st' σ H' ∧ ExRep X.K F' x cls d H' ∧ E x st') → EX cls d H') :
    SpD X.K m c vs H (fun v H' => ∃ w' st' F' ρ', Post F ρ H F' ρ' H' ∧ Rl X.K n F' ρ' st' σ H' ∧ RepW X.K F' ρ' w' v ∧ Q w' st') EX := by
  have hl : ∀ l ∈ locs ws, l < ρ.length := fun l hl => r.mem (mem_locs hl)
  refine ⟨F, vw ρ (locs ws), vwO st.μ (locs ws), ws.map (ren (locs ws)), _, _, R.ok.view (locs_nd ws) hl, ren_rep hl r fun n z => locs_mem z, by simpa using hm, h.ap, fun w μ' v F' ρ' H' q p ok rw => ?_, fun x μ' cls d F' ρ' H' q p ok rx => ?_⟩
  · obtain ⟨t, e, P, ok2⟩ := view_back R.ok (locs_nd ws) hl p ok
    subst e
    exact ⟨_, _, F', ρ ++ t, P, R.step P ok2, by rw [← R.ok.len]; exact unren_rep hl rw, q⟩
  · obtain ⟨t, e, P, ok2⟩ := view_back R.ok (locs_nd ws) hl p ok
    exact hE cls d H' ⟨_, F', ρ ++ t, x, R.step P ok2, rx, q⟩
theorem pd_call {x : Str} {k m : Nat} {c : DSp} {wa : DA} (D : FnD X.prog X.w X.K X.mg X.base x k m c) (hr : Room k X.A) (hg : Gl X x) (ha : PAD X n (e :: es) wa) (hm : (e :: es).length = m := by rfl) (hdb : (x == ("__debug__" : Str)) = false := by decide)
    (he : starEach (e :: es) X.env = (false, eval e X.env) :: starEach es X.env := by rfl) (hpl : (backTo pos (starEach es X.env)).any (·.1) = false := by rfl) : PD X n (.Call (.Name x p) (e :: es) [] pos) (wCallD (fun ws μ Q E => ws.length = m ∧ c ws μ Q E) wa) := by
  obtain ⟨f, fd, ps, Fn, hmg, hk, hb⟩ := D.ex
  refine ⟨fun pins s σ H F ρ st Q E I R tk hw => ?_⟩
  refine wpAny_Call_Name_kw (ld_glob I hg hmg ?_ hdb)
  refine PySem.W.callWith_K (h₀ := X.base) I.ok.mod.kin hk (thn (ha.run pos pins s σ H F ρ st _ E I R tk hw) fun us s1 ⟨vs, ws, st1, H1, F1, ρ1, I1, r, p1, R1, rw, q⟩ => ⟨I1.kIn, ?_⟩) he hpl
  have q : (ws.map (ren (locs ws))).length = m ∧ _ := q.ap
  refine thn (run_fnS Fn hr hb (passAt tk σ) I1 r (call_sp R1 rw (by simpa using q.1) ⟨q.2⟩ fun cls d H' z => z)) fun u s2 ⟨v, H2, I2, r2, w', st', F', ρ', p2, R2, rw2, q2⟩ => ?_
  exact ⟨v, w', st', H2, F', ρ', I2, r2, p1.trans p2 R1.ok.dom, R2, rw2, q2⟩
theorem pd_call0 {x : Str} {k : Nat} {c : DSp} (D : FnD X.prog X.w X.K X.mg X.base x k 0 c) (hr : Room k X.A) (hg : Gl X x) (hdb : (x == ("__debug__" : Str)) = false := by decide) :
    PD X n (.Call (.Name x p) [] [] pos) (wCallD c wNil) := by
  obtain ⟨f, fd, ps, Fn, hmg, hk, hb⟩ := D.ex
  refine ⟨fun pins s σ H F ρ st Q E I R tk hw => ?_⟩
  refine wpAny_Call_Name_kw (ld_glob I hg hmg ?_ hdb)
  have q : wFn c [] st Q E := hw
  refine PySem.W.callWith_K0 I.kIn hk (thn (run_fnS (us := []) Fn hr hb (passAt tk σ) I .nil (call_sp R (show RepWL X.K F ρ [] [] from rfl) rfl q fun cls d H' z => z)) fun u s2 ⟨v, H2, I2, r2, w', st', F', ρ', p2, R2, rw2, q2⟩ => ?_)
  exact ⟨v, w', st', H2, F', ρ', I2, r2, p2, R2, rw2, q2⟩
end

def startD (N : Nat) (ws : List W) : List (Option W) := ws.map some ++ List.replicate (N - ws.length) none
theorem rl_start {K : PySem.W.Frag} {F : Hp} {ρ : List Addr} {μ : List O} {H : Hp} {N : List Str} {ws : List W} {vs : List V} (s : StOk K F ρ μ H) (r : RepWL K F ρ ws vs) : Rl K ⟨F, ρ, H⟩ F ρ ⟨startD N.length ws, μ⟩ (L2.start N vs) H := by
  have get : ∀ {ws : List W} {vs : List V} {i : Nat} {w : W}, RepWL K F ρ ws vs → ws[i]? = some w → ∃ v, vs[i]? = some v ∧ RepW K F ρ w v := by
    intro ws
    induction ws with
    | nil => intro vs i w h e; simp at e
    | cons x ws ih =>
      intro vs i w h e
      obtain ⟨v, t, rfl, q, h2⟩ := h
      cases i with
      | zero => simp at e; subst e; exact ⟨v, rfl, q⟩
      | succ i =>
        obtain ⟨u, e1, e2⟩ := ih (i := i) h2 (by simpa using e)
        exact ⟨u, by simpa using e1, e2⟩
  refine ⟨s, Post.refl _ _ _, by simp [startD, L2.start, r.len], fun i w e => ?_⟩
  have e : (startD N.length ws)[i]? = some (some w) := e
  unfold startD at e
  by_cases hi : i < ws.length
  · rw [List.getElem?_append_left (by simpa using hi), List.getElem?_map] at e
    cases q : ws[i]? with
    | none => rw [q] at e; cases e
    | some w' =>
      rw [q] at e
      have e : w' = w := by simpa using e
      subst e
      obtain ⟨v, e1, e2⟩ := get r q
      refine ⟨v, ?_, e2⟩
      unfold L2.start
      rw [List.getElem?_append_left (by simpa [← r.len] using hi), List.getElem?_map, e1]
      rfl
  · rw [List.getElem?_append_right (by simpa using hi), List.getElem?_replicate] at e
    split at e <;> cases e
section
variable {P : Program} {w : World} {K : PySem.W.Frag} {mg : Str → Option Value} {base : Heap} {x qual : Str} {params : Arguments} {body : List Stmt} {scope : Scope} {dvs : List V} {kws : List (Str × V)} {f : Addr} {fd : FuncData}
/-- the context of a def's body -/
abbrev cxD (P : Program) (w : World) (K : PySem.W.Frag) (mg : Str → Option Value) (base : Heap) (N : List Str) (qual : Str) (scope : Scope) (f : Addr) (cdv : Value) (A : Around) (outer : List Env) (s : Shared) (H : Hp) (E : XK) : Cx := cxOf (L2.CX P w) P w K mg base N qual scope f cdv A outer s H E
theorem ok_ofD {N ps : List Str} {k m : Nat} {c : DSp} {wb : DS} (F : FunD K x qual params body scope dvs kws f fd) (S : FnScope N ps scope) (hm : m = ps.length)
    (hb : ∀ (cdv : Value) (A : Around) (outer : List Env) (s : Shared) (H : Hp) (E : XK) (n : En), Room k (A.deeper (envOfC qual scope s.heap.objs.size f cdv)) → PSSD (cxD P w K mg base N qual scope f cdv A outer s H E) n body wb)
    (hc : ∀ ws μ Q E, ws.length = m → c ws μ Q E → wb { nx := fun st => Q (.d .non) st.μ, rt := Q, ex := fun x st => E x st.μ } ⟨startD N.length ws, μ⟩) : FnOk P w K mg base (L2.CX P w) (k + 1) f fd ps (SpD K m c) := by
  refine F.ok S (fun vs H Q E ⟨_, _, _, ws, _, _, _, r, hl, _⟩ => by rw [← r.len, hl, hm]) fun cdv A outer s H vs Q E hr h => ?_
  obtain ⟨F0, ρ, μ, ws, QD, ED, ok, r, hl, h, hq, he⟩ := h
  refine ⟨_, (hb cdv A outer s H E ⟨F0, ρ, H⟩ hr).pss, ?_⟩
  have tk : TkD (cxD P w K mg base N qual scope f cdv A outer s H E) ⟨F0, ρ, H⟩ (fun x st => ED x st.μ) :=
    (takes_of (X := cxD P w K mg base N qual scope f cdv A outer s H E) rfl rfl rfl rfl).imp fun cls d σ H' ⟨st', F', ρ', x, R, rx, z⟩ => he x st'.μ cls d F' ρ' H' z R.po R.ok rx
  refine tS.use (DD := { nx := fun st => QD (.d .non) st.μ, rt := QD, ex := fun x st => ED x st.μ }) (rl_start (N := N) ok r) tk (hc ws μ QD ED hl h) (fun σ' H' F' ρ' st' p R z => hq _ _ .non F' ρ' H' z p R.ok rfl) (fun v w' H' F' ρ' μ' p p0 ok' rw z => hq _ _ v F' ρ' H' z p ok' rw)
    (fun _ _ _ _ _ _ _ z => z.elim) (fun _ _ _ _ _ _ _ z => z.elim)
end
end Dl
namespace Dl
open PySem PySem.Spec PyProof.Rows L2
variable [TheW]
section
variable {K : PySem.W.Frag} {X : Cx} {n : En} {e o a b : Expr} {es : List Expr} {pos p : Pos} {we wo wi : DE}

theorem loc_lst {F H : Hp} {ρ : List Addr} {μ : List O} {j : Nat} {v : V} {xs : List D} (s : StOk K F ρ μ H) (r : RepW K F ρ (.loc j) v) (h : μ[j]? = some (.lst xs)) : ∃ p vs, v = .ref p ∧ ρ[j]? = some p ∧ F p = none ∧ H p = some (.lst vs) ∧ RepL K F xs vs := by
  obtain ⟨p, e, rfl⟩ := r
  obtain ⟨f, vs, h1, h2⟩ := s.obj j p _ e h
  exact ⟨p, vs, rfl, e, f, h1, h2⟩
/-- xs[i] of data, or of a list of the store -/
def wIx (wa wb : DE) : DE := fun st Q E => wa st (fun a st1 => wb st1 (fun b st2 => match a, b with
  | .d x, .d y => oIx x y fun z => Q (.d z) st2
  | .loc j, .d (.int k) => match st2.μ[j]? with
    | some (.lst xs) => match atI xs k with
      | some d => Q (.d d) st2
      | none => False
    | _ => False
  | _, _ => False) E) E
theorem pd_ixW {wa wb : DE} (ha : PD X n a wa) (hb : PD X n b wb) (hs : PlainIx b := by exact fun _ _ => rfl) : PD X n (.Subscript a b pos) (wIx wa wb) :=
  pd_of (pe_ix ix_seq ha.pe hb.pe hs) fun σ H F ρ st Q E R tk hw => by
    refine tE.use R tk hw fun v w1 st1 H1 F1 ρ1 p1 R1 r1 h1 => ?_
    refine tE.use R1 tk h1 fun u w2 st2 H2 F2 ρ2 p2 R2 r2 h2 => ?_
    have p12 := p1.trans p2 R1.ok.dom
    have r1 := r1.post p2
    cases w1 with
    | scr _ => exact h2.elim
    | d x =>
      cases w2 <;> first | exact h2.elim | skip
      rename_i y
      refine ops_ix F2 H2 x y v u _ _ R2.ok.sub r1 r2 h2 fun z H' d F' g rz q => ?_
      obtain ⟨p3, R3⟩ := R2.grow g
      exact ⟨.d d, st2, F', ρ2, p12.trans p3 R2.ok.dom, R3, rz, q⟩
    | loc j =>
      cases w2 <;> first | exact h2.elim | skip
      rename_i y
      cases y <;> first | exact h2.elim | skip
      rename_i k
      obtain rfl := (show u = .int k from r2)
      have h2 : (match st2.μ[j]? with
        | some (.lst xs) => match atI xs k with
          | some d => Q (.d d) st2
          | none => False
        | _ => False) := h2
      split at h2
      · rename_i xs ex
        obtain ⟨q, vs, rfl, e1, f, h3, h4⟩ := loc_lst R2.ok r1 ex
        cases e : atI xs k with
        | none => rw [e] at h2; exact h2.elim
        | some d =>
          rw [e] at h2
          obtain ⟨z, e2, rz⟩ := atI_rep h4 e
          exact .inl ⟨q, vs, k, z, rfl, rfl, .of h3, e2, .d d, st2, F2, ρ2, p12, R2, rz, h2⟩
      · exact h2.elim
/-- the list at a place of the store is written -/
theorem Rl.store {F : Hp} {ρ : List Addr} {st : Dst} {σ : L2.St} {H : Hp} {j : Nat} {p : Addr} {o : O} {u : HO} (R : Rl K n F ρ st σ H) (e : ρ[j]? = some p) (h : OOk K F (upd H p u) p o) (f : F p = none) (nt : ∀ ps, u ≠ .tbl ps := by intro _ z; cases z) :
    Post F ρ H F ρ (upd H p u) ∧ Rl K n F ρ { st with μ := st.μ.set j o } σ (upd H p u) := by
  have pm : p ∈ ρ := List.mem_of_getElem? e
  have P : Post F ρ H F ρ (upd H p u) := ⟨SubH.refl F, ⟨[], by simp⟩, fun _ z => .inl z, fun b w hb nb => .inl (by rw [upd_ne (fun z : b = p => nb (by rw [z]; exact pm))]; exact hb), fun b z nb => absurd z nb⟩
  refine ⟨P, R.step P ⟨fun b w hb => by rw [upd_ne (ne_of_none hb f)]; exact R.ok.sub b w hb, by simp [R.ok.len], R.ok.nd, fun b hb => ?_, fun i b w e1 e2 => ?_, R.ok.tabs.ext (SubH.refl F) fun b ps f e => ?_, fun b hb ps => ?_⟩⟩
  rotate_left 2
  · rw [upd_ne (fun z : b = p => R.ok.notab p pm ps (by rw [← z]; exact e))]; exact ⟨f, e⟩
  · by_cases z : b = p
    · subst z; rw [upd_same]; intro z; cases z; exact nt ps rfl
    · rw [upd_ne z]; exact R.ok.notab b hb ps
  · by_cases z : b = p
    · subst z; rw [upd_same]; simp
    · rw [upd_ne z]; exact R.ok.dom b hb
  · by_cases z : j = i
    · subst z
      rw [e] at e1; cases e1
      have hj : j < st.μ.length := by rw [← R.ok.len]; exact (List.getElem?_eq_some_iff.mp e).1
      rw [List.getElem?_set_self hj] at e2
      cases e2
      exact h
    · rw [List.getElem?_set_ne z] at e2
      have nb : b ≠ p := fun y => by
        subst y
        obtain ⟨b1, c1⟩ := List.getElem?_eq_some_iff.mp e
        obtain ⟨b2, c2⟩ := List.getElem?_eq_some_iff.mp e1
        exact z ((List.getElem_inj R.ok.nd).mp (c1.trans c2.symm))
      exact (R.ok.obj i b w e1 e2).mono (SubH.refl F) (fun y => y) fun w hw => by rw [upd_ne nb]; exact hw
theorem RepL.set {F : Hp} {d : D} {v : V} (h : Rep K F d v) : ∀ {ds : List D} {vs : List V} (i : Nat), RepL K F ds vs → RepL K F (ds.set i d) (vs.set i v)
  | [], _, i, r => by unfold RepL at r; subst r; exact RepL.nil
  | x :: ds, _, 0, r => by
    unfold RepL at r
    obtain ⟨u, t, rfl, q, r⟩ := r
    exact RepL.cons h r
  | x :: ds, _, i + 1, r => by
    unfold RepL at r
    obtain ⟨u, t, rfl, q, r⟩ := r
    exact RepL.cons q (RepL.set h i r)
/-- xs[i] = v, of a list of the store -/
def gSub (wo wi : DE) : DG := fun w st Q E => wo st (fun o st1 => wi st1 (fun i st2 => match o, i, w with
  | .loc j, .d (.int k), .d x => match st2.μ[j]? with
    | some (.lst xs) => match ixN xs.length k with
      | some m => Q { st2 with μ := st2.μ.set j (.lst (xs.set m x)) }
      | none => False
    | _ => False
  | _, _, _ => False) E) E
theorem pgd_sub (ho : PD X n o wo) (hi : PD X n e wi) (ha : ∀ v, assign (.Subscript o e pos) X.env v = (do
      let ov ← holding [v] (eval o X.env)
      let iv ← holding [v, ov] (eval e X.env)
      standAt pos
      holding [v, ov, iv] (setItem ov iv v)
      release [v, ov, iv] []) := by intro _; rfl) : PGD X n (.Subscript o e pos) (gSub wo wi) :=
  pgd_of (pg_sub ho.pe hi.pe set_list ha) fun σ H F ρ st w v Q E R tk rw hw => by
    refine tE.use R tk hw fun v1 w1 st1 H1 F1 ρ1 p1 R1 r1 h1 => ?_
    refine tE.use R1 tk h1 fun v2 w2 st2 H2 F2 ρ2 p2 R2 r2 h2 => ?_
    have p12 := p1.trans p2 R1.ok.dom
    have r1 := r1.post p2
    have rw := rw.post p12
    have r2' := r2
    clear r2
    cases w1 with
    | d _ => exact h2.elim
    | scr _ => exact h2.elim
    | loc j =>
    cases w2 with
    | loc _ => exact h2.elim
    | scr _ => exact h2.elim
    | d y =>
    cases y <;> first | exact h2.elim | skip
    rename_i k
    cases w with
    | loc _ => exact h2.elim
    | scr _ => exact h2.elim
    | d x =>
    obtain rfl := (show v2 = .int k from r2')
    have h2 : (match st2.μ[j]? with
      | some (.lst xs) => match ixN xs.length k with
        | some m => Q { st2 with μ := st2.μ.set j (.lst (xs.set m x)) }
        | none => False
      | _ => False) := h2
    split at h2
    · rename_i xs ex
      obtain ⟨q, vs, rfl, e1, f, h3, h4⟩ := loc_lst R2.ok r1 ex
      cases e : ixN xs.length k with
      | none => rw [e] at h2; exact h2.elim
      | some m =>
        rw [e] at h2
        obtain ⟨p3, R3⟩ := R2.store (o := .lst (xs.set m x)) (u := .lst (vs.set m v)) e1 ⟨f, _, upd_same, RepL.set rw m h4⟩ f
        exact ⟨q, vs, k, m, rfl, rfl, h3, by rw [← h4.len]; exact e, F2, ρ2, _, p12.trans p3 R2.ok.dom, R3, h2⟩
    · exact h2.elim
/-- an object of the store becomes data -/
def wFrz (w : DE) : DE := fun st Q E => w st (fun v st1 => match v with
  | .d x => Q (.d x) st1
  | .loc j => match st1.μ[j]? with
    | some (.lst xs) => Q (.d (.lst xs)) { st1 with μ := st1.μ.set j .dead }
    | some (.ins c ks vs) => Q (.d (.ins c ks vs)) { st1 with μ := st1.μ.set j .dead }
    | _ => False
  | .scr _ => False) E
theorem Rl.frz {F : Hp} {ρ : List Addr} {st : Dst} {σ : L2.St} {H : Hp} {j : Nat} {p : Addr} {u : HO} (R : Rl K n F ρ st σ H) (e : ρ[j]? = some p) (f : F p = none) (h : H p = some u) :
    Post F ρ H (upd F p u) ρ H ∧ Rl K n (upd F p u) ρ { st with μ := st.μ.set j .dead } σ H := by
  have pm : p ∈ ρ := List.mem_of_getElem? e
  have sub : SubH F (upd F p u) := fun b w hb => by rw [upd_ne (ne_of_none hb f)]; exact hb
  have P : Post F ρ H (upd F p u) ρ H := ⟨sub, ⟨[], by simp⟩, fun b z => by
    by_cases y : b = p
    · subst y; exact .inr (.inr pm)
    · rw [upd_ne y] at z; exact .inl z, fun b w hb nb => .inl hb, fun b z nb => absurd z nb⟩
  refine ⟨P, R.step P ⟨fun b w hb => ?_, by simp [R.ok.len], R.ok.nd, R.ok.dom, fun i b w e1 e2 => ?_, R.ok.tabs.ext sub fun b ps f e => ?_, R.ok.notab⟩⟩
  rotate_left 2
  · rw [upd_ne (fun z : b = p => R.ok.notab p pm ps (by rw [← z]; exact e))]; exact ⟨f, e⟩
  · by_cases y : b = p
    · subst y; rw [upd_same] at hb; cases hb; exact h
    · rw [upd_ne y] at hb; exact R.ok.sub b w hb
  · by_cases z : j = i
    · subst z
      have hj : j < st.μ.length := by rw [← R.ok.len]; exact (List.getElem?_eq_some_iff.mp e).1
      rw [List.getElem?_set_self hj] at e2
      cases e2
      trivial
    · rw [List.getElem?_set_ne z] at e2
      have nb : b ≠ p := fun y => by
        subst y
        obtain ⟨b1, c1⟩ := List.getElem?_eq_some_iff.mp e
        obtain ⟨b2, c2⟩ := List.getElem?_eq_some_iff.mp e1
        exact z ((List.getElem_inj R.ok.nd).mp (c1.trans c2.symm))
      exact (R.ok.obj i b w e1 e2).mono sub (fun y => by rw [upd_ne nb]; exact y) fun w hw => hw
theorem pd_frz (h : PD X n e we) : PD X n e (wFrz we) := by
  refine ⟨fun pins s σ H F ρ st Q E I R tk hw => ?_⟩
  refine thn (h.run pins s σ H F ρ st _ E I R tk hw) fun u s1 ⟨v, w1, st1, H1, F1, ρ1, I1, r, p1, R1, r1, h1⟩ => ?_
  cases w1 with
  | d x => exact ⟨v, .d x, st1, H1, F1, ρ1, I1, r, p1, R1, r1, h1⟩
  | scr _ => exact h1.elim
  | loc j =>
    have h1 : (match st1.μ[j]? with
      | some (.lst xs) => Q (.d (.lst xs)) { st1 with μ := st1.μ.set j .dead }
      | some (.ins c ks vs) => Q (.d (.ins c ks vs)) { st1 with μ := st1.μ.set j .dead }
      | _ => False) := h1
    obtain ⟨q, e1, rfl⟩ := r1
    split at h1
    · rename_i xs ex
      obtain ⟨f, vs, h2, h3⟩ := R1.ok.obj j q _ e1 ex
      obtain ⟨p2, R2⟩ := R1.frz e1 f h2
      refine ⟨.ref q, .d (.lst xs), _, H1, _, ρ1, I1, r, p1.trans p2 R1.ok.dom, R2, ?_, h1⟩
      show Rep _ _ (.lst xs) _
      unfold Rep
      exact ⟨q, vs, rfl, upd_same, RepL.sub p2.le _ _ h3⟩
    · rename_i c ks ds ex
      obtain ⟨f, dx, fs, h2, h3, h4⟩ := R1.ok.obj j q _ e1 ex
      obtain ⟨p2, R2⟩ := R1.frz e1 f h2
      refine ⟨.ref q, .d (.ins c ks ds), _, H1, _, ρ1, I1, r, p1.trans p2 R1.ok.dom, R2, ?_, h1⟩
      show Rep _ _ (.ins c ks ds) _
      unfold Rep
      exact ⟨q, dx, fs, rfl, upd_same, h3, RepL.sub p2.le _ _ h4⟩
    · exact h1.elim
/-- a written list, of the store -/
def wLstN (wr : DA) : DE := fun st Q E => wr st (fun ws st1 => match datas ws with
  | some xs => xs.length ≤ 16777216 ∧ Q (.loc st1.μ.length) { st1 with μ := st1.μ ++ [.lst xs] }
  | none => False) E
theorem Rl.newO {F : Hp} {ρ : List Addr} {st : Dst} {σ : L2.St} {H : Hp} {p : Addr} {o : O} {u : HO} (R : Rl K n F ρ st σ H) (hp : H p = none) (h : OOk K F (upd H p u) p o) (nt : ∀ ps, u ≠ .tbl ps := by intro _ z; cases z) :
    Post F ρ H F (ρ ++ [p]) (upd H p u) ∧ Rl K n F (ρ ++ [p]) { st with μ := st.μ ++ [o] } σ (upd H p u) := by
  have np : ∀ b, b ∈ ρ → b ≠ p := fun b hb z => R.ok.dom b hb (z ▸ hp)
  have f : F p = none := by
    cases q : F p with
    | none => rfl
    | some w => rw [R.ok.sub p w q] at hp; cases hp
  have P : Post F ρ H F (ρ ++ [p]) (upd H p u) := ⟨SubH.refl F, ⟨[p], rfl⟩, fun _ z => .inl z, fun b w hb nb => .inl (by rw [upd_ne (ne_of_none hb hp)]; exact hb), fun b z nb => by
    rcases List.mem_append.mp z with z | z
    · exact absurd z nb
    · obtain rfl := List.mem_singleton.mp z; exact hp⟩
  refine ⟨P, R.step P ⟨fun b w hb => by rw [upd_ne (ne_of_none hb f)]; exact R.ok.sub b w hb, by simp [R.ok.len], ?_, fun b hb => ?_, fun i b w e1 e2 => ?_, R.ok.tabs.ext (SubH.refl F) fun b ps f e => ⟨f, by rw [upd_ne (ne_of_none e hp)]; exact e⟩, fun b hb ps => ?_⟩⟩
  rotate_left 3
  · rcases List.mem_append.mp hb with z | z
    · rw [upd_ne (np b z)]; exact R.ok.notab b z ps
    · obtain rfl := List.mem_singleton.mp z; rw [upd_same]; intro z; cases z; exact nt ps rfl
  · refine List.nodup_append.mpr ⟨R.ok.nd, by simp, fun b hb c hc z => ?_⟩
    obtain rfl := List.mem_singleton.mp hc
    exact np b hb z
  · rcases List.mem_append.mp hb with z | z
    · rw [upd_ne (np b z)]; exact R.ok.dom b z
    · obtain rfl := List.mem_singleton.mp z; rw [upd_same]; simp
  · by_cases hi : i < ρ.length
    · rw [List.getElem?_append_left hi] at e1
      rw [List.getElem?_append_left (by rw [← R.ok.len]; exact hi)] at e2
      exact (R.ok.obj i b w e1 e2).mono (SubH.refl F) (fun y => y) fun w hw => by rw [upd_ne (np b (List.mem_of_getElem? e1))]; exact hw
    · rw [List.getElem?_append_right (by omega)] at e1
      rw [List.getElem?_append_right (by rw [← R.ok.len]; omega), ← R.ok.len] at e2
      cases hj : i - ρ.length with
      | zero => rw [hj] at e1 e2; cases e1; cases e2; exact h
      | succ j => rw [hj] at e1; simp at e1
theorem pd_lstN {wr : DA} (h : PAD X n es wr) : PD X n (.List es pos) (wLstN wr) :=
  pd_of (pe_lst h.pa) fun σ H F ρ st Q E R tk hw => by
    refine tA.use R tk hw fun vs ws st1 H1 F1 ρ1 p1 R1 r1 h1 => ?_
    cases e : datas ws with
    | none => rw [e] at h1; exact h1.elim
    | some xs =>
      rw [e] at h1
      rw [datas_map e] at r1
      have q := r1.ofD
      refine ⟨by rw [← q.len, sizeLine_eq]; exact h1.1, fun p hp => ?_⟩
      have f : F1 p = none := by
        cases q : F1 p with
        | none => rfl
        | some w => rw [R1.ok.sub p w q] at hp; cases hp
      obtain ⟨p2, R2⟩ := R1.newO (o := .lst xs) (u := .lst vs) hp ⟨f, vs, upd_same, q⟩
      exact ⟨.loc st1.μ.length, _, F1, ρ1 ++ [p], p1.trans p2 R1.ok.dom, R2, ⟨p, by rw [← R1.ok.len]; simp, rfl⟩, h1.2⟩
/-- the script, cut -/
def wSlScr (w : DE) (lo hi : DPo) : DE := fun st Q E => w st (fun v st1 => lo st1 (fun l st2 => hi st2 (fun h st3 => match v with
  | .scr xs => Q (.d (.lst (cutD (xs.map D.int) l h))) st3
  | _ => False) E) E) E
theorem repL_ints {F : Hp} : ∀ xs : List Int, RepL K F (xs.map D.int) (xs.map V.int)
  | [] => RepL.nil
  | x :: xs => RepL.cons rfl (repL_ints xs)
theorem pd_sliceScr {lo hi : Option Expr} {wl wh : DPo} {p2 : Pos} (h : PD X n e we) (hl : POD X n lo wl) (hh : POD X n hi wh) : PD X n (.Subscript e (.Slice lo hi none p2) pos) (wSlScr we wl wh) :=
  pd_of (pe_slice sl_list h.pe hl.po hh.po) fun σ H F ρ st Q E R tk hw => by
    refine tE.use R tk hw fun v w1 st1 H1 F1 ρ1 p1 R1 r1 h1 => ?_
    refine ⟨F1, ρ1, st1, _, E, R1, tk, h1, fun l st2 H2 F2 ρ2 p2 R2 h2 => ?_⟩
    refine ⟨F2, ρ2, st2, _, E, R2, tk, h2, fun u st3 H3 F3 ρ3 p3 R3 h3 => ?_⟩
    cases w1 <;> first | exact h3.elim | skip
    rename_i xs
    obtain ⟨a, rfl, q⟩ := (r1.post p2).post p3
    have p13 := (p1.trans p2 R1.ok.dom).trans p3 R2.ok.dom
    refine ⟨a, xs.map V.int, rfl, SqL.sub R3.ok.sub q, fun p hp => ?_⟩
    have g : Grow F3 H3 (upd F3 p (.lst (cutV (xs.map V.int) l u))) (upd H3 p (.lst (cutV (xs.map V.int) l u))) := .one hp
    obtain ⟨p4, R4⟩ := R3.grow g
    refine ⟨.d (.lst (cutD (xs.map D.int) l u)), st3, _, _, p13.trans p4 R3.ok.dom, R4, ?_, h3⟩
    show Rep _ _ (.lst _) _
    unfold Rep
    exact ⟨p, _, rfl, upd_same, repL_cut (repL_ints xs) l u⟩

abbrev DMt := D → List D → (D → Prop) → Prop
def MtS (K : PySem.W.Frag) (r : V → List V → Hp → VK → Prop) (o : DMt) : Prop := ∀ (F H : Hp) (x : D) (xs : List D) (v : V) (vs : List V) (Q : D → Prop) (k : VK), SubH F H → Rep K F x v → RepL K F xs vs → o x xs Q → (∃ z, x = .str z) ∧ ((∀ z H' d F', Grow F H F' H' → Rep K F' d z → Q d → k z H') → r v vs H k)
def wM0 (o : DMt) (w : DE) : DE := fun st Q E => w st (fun v st1 => match v with
  | .d x => o x [] fun z => Q (.d z) st1
  | _ => False) E
def wM1 (o : DMt) (w wa : DE) : DE := fun st Q E => w st (fun v st1 => match v with
  | .d (.str x) => wa st1 (fun u st2 => match u with
    | .d y => o (.str x) [y] fun z => Q (.d z) st2
    | _ => False) E
  | _ => False) E
theorem pd_m1 {id : String} {name : Str} {apos : Pos} {r : V → List V → Hp → VK → Prop} {o' : DMt} {wa : DE} (slot : Slot "str" name id) (ty : typeOf (.builtin id) = pure (.type "method_descriptor")) (rule : MtR X id r) (S : MtS X.K r o') (ho : PD X n o we) (he : PD X n e wa)
    (hs : starEach [e] X.env = [(false, eval e X.env)] := by rfl) (hbase : attributeBase o name X.env (eval o X.env) = eval o X.env := by rfl) (hline : (apos.endLine == pos.line) = true := by rfl) : PD X n (.Call (.Attribute o name apos) [e] [] pos) (wM1 o' we wa) :=
  pd_of (pe_m1 slot ty rule ho.pe he.pe hs hbase hline) fun σ H F ρ st Q E R tk hw => by
    refine tE.use R tk hw fun v w1 st1 H1 F1 ρ1 p1 R1 r1 h1 => ?_
    cases w1 <;> first | exact h1.elim | skip
    rename_i x
    cases x <;> first | exact h1.elim | skip
    rename_i x
    obtain rfl := (show v = .str (mkS x) from r1)
    refine ⟨⟨_, rfl⟩, ?_⟩
    refine tE.use R1 tk h1 fun u w2 st2 H2 F2 ρ2 p2 R2 r2 h2 => ?_
    cases w2 <;> first | exact h2.elim | skip
    rename_i y
    refine (S F2 H2 (.str x) [y] _ [u] _ _ R2.ok.sub rfl (RepL.one r2) h2).2 fun z H' d F' g rz q => ?_
    obtain ⟨p3, R3⟩ := R2.grow g
    exact ⟨.d d, st2, F', ρ2, (p1.trans p2 R1.ok.dom).trans p3 R2.ok.dom, R3, rz, q⟩
theorem pd_m0 {id : String} {name : Str} {apos : Pos} {r : V → List V → Hp → VK → Prop} {o' : DMt} (slot : Slot "str" name id) (ty : typeOf (.builtin id) = pure (.type "method_descriptor")) (rule : MtR X id r) (S : MtS X.K r o') (ho : PD X n o we)
    (hbase : attributeBase o name X.env (eval o X.env) = eval o X.env := by rfl) (hline : (apos.endLine == pos.line) = true := by rfl) : PD X n (.Call (.Attribute o name apos) [] [] pos) (wM0 o' we) :=
  pd_of (pe_m0 slot ty rule ho.pe hbase hline) fun σ H F ρ st Q E R tk hw => by
    refine tE.use R tk hw fun v w1 st1 H1 F1 ρ1 p1 R1 r1 h1 => ?_
    cases w1 <;> first | exact h1.elim | skip
    rename_i x
    obtain ⟨⟨z, rfl⟩, S⟩ := S F1 H1 x [] v [] _ (fun v H' => ∃ w' st' F' ρ', Post F ρ H F' ρ' H' ∧ Rl X.K n F' ρ' st' σ H' ∧ RepW X.K F' ρ' w' v ∧ Q w' st') R1.ok.sub r1 RepL.nil h1
    obtain rfl := (show v = .str (mkS z) from r1)
    refine ⟨⟨_, rfl⟩, S fun z H' d F' g rz q => ?_⟩
    obtain ⟨p3, R3⟩ := R1.grow g
    exact ⟨.d d, st1, F', ρ1, p1.trans p3 R1.ok.dom, R3, rz, q⟩
/-- the texts of a row -/
def strsD : List D → Option (List (List Nat))
  | [] => some []
  | .str x :: ds => match strsD ds with
    | some r => some (x :: r)
    | none => none
  | _ :: _ => none
theorem strsD_rep {F : Hp} : ∀ {ds : List D} {zs : List (List Nat)} {vs : List V}, strsD ds = some zs → RepL K F ds vs → vs = (zs.map mkS).map V.str
  | [], zs, vs, e, r => by cases e; unfold RepL at r; exact r
  | .str x :: ds, zs, vs, e, r => by
    unfold strsD at e
    cases q : strsD ds with
    | none => rw [q] at e; cases e
    | some ys =>
      rw [q] at e; cases e
      unfold RepL at r
      obtain ⟨v, t, rfl, h1, h2⟩ := r
      obtain rfl := h1
      rw [strsD_rep q h2]; rfl
  | .non :: _, _, _, e, _ => by cases e
  | .bl _ :: _, _, _, e, _ => by cases e
  | .int _ :: _, _, _, e, _ => by cases e
  | .tup _ :: _, _, _, e, _ => by cases e
  | .lst _ :: _, _, _, e, _ => by cases e
  | .dic _ _ :: _, _, _, e, _ => by cases e
  | .ins _ _ _ :: _, _, _, e, _ => by cases e
  | .ty _ :: _, _, _, e, _ => by cases e
  | .cls _ :: _, _, _, e, _ => by cases e
  | .exc _ _ _ :: _, _, _, e, _ => by cases e
  | .lamR _ _ :: _, _, _, e, _ => by cases e
  | .lam _ _ _ :: _, _, _, e, _ => by cases e
/-- joined lists of signs -/
def joinD (S : List Nat) : List (List Nat) → List Nat
  | [] => []
  | [p] => p
  | p :: q :: r => p ++ (S ++ joinD S (q :: r))
theorem joinD_str (a : List Nat) : ∀ zs : List (List Nat), Str.join (mkS a) (zs.map mkS) = mkS (joinD a zs)
  | [] => rfl
  | [p] => rfl
  | p :: q :: r => by
    show mkS p ++ mkS a ++ Str.join (mkS a) ((q :: r).map mkS) = mkS (p ++ (a ++ joinD a (q :: r)))
    rw [joinD_str a (q :: r), mkS_app, mkS_app, List.append_assoc]
/-- sep.join(row) -/
def oJoin : DMt := fun x xs Q => match x, xs with
  | .str a, [.lst ys] => ∃ zs, strsD ys = some zs ∧ (zs.map (·.length)).sum + zs.length * a.length ≤ 16777216 ∧ Q (.str (joinD a zs))
  | _, _ => False
theorem mts_join : MtS K (fun x xs H Q => ∃ a p, ∃ ys : List Str, x = .str a ∧ xs = [.ref p] ∧ (SqL K H p (ys.map V.str) ∨ SqT K H p (ys.map V.str)) ∧
    (ys.map (·.length)).sum + ys.length * a.length ≤ 16777216 ∧ Q (.str (Txt.join a ys)) H) oJoin := by
  intro F H x xs v vs Q k s rx r h
  unfold oJoin at h
  split at h
  · rename_i a ys
    refine ⟨⟨a, rfl⟩, fun c => ?_⟩
    obtain rfl := rx
    obtain ⟨u, rfl, q⟩ := repL1 r
    unfold Rep at q
    obtain ⟨p, us, rfl, e1, q⟩ := q
    obtain ⟨zs, e2, hz, z⟩ := h
    have e3 := strsD_rep e2 q
    subst e3
    refine ⟨mkS a, p, zs.map mkS, rfl, rfl, .inl (.of (s _ _ e1)), ?_, ?_⟩
    · rw [List.map_map, List.length_map, mkS_len]
      have : ((fun x : Str => x.length) ∘ mkS) = fun z : List Nat => z.length := by funext z; exact mkS_len z
      rw [this]; exact hz
    · rw [TL.join_eq, joinD_str]
      exact c _ H (.str (joinD a zs)) F (.refl _ _) rfl z
  · exact h.elim
theorem pd_join {apos : Pos} {wa : DE} (ho : PD X n o we) (he : PD X n e wa) (hs : starEach [e] X.env = [(false, eval e X.env)] := by rfl) (hbase : attributeBase o "join" X.env (eval o X.env) = eval o X.env := by rfl) (hline : (apos.endLine == pos.line) = true := by rfl) :
    PD X n (.Call (.Attribute o "join" apos) [e] [] pos) (wM1 oJoin we wa) := pd_m1 F.slot_str_join F.type_str_join mt_join mts_join ho he hs hbase hline

/-- one sign in a text -/
def oInS : DOp := fun x y Q => match x, y with
  | .str [c], .str z => Q (.bl (decide (c ∈ z)))
  | _, _ => False
def oNotInS : DOp := fun x y Q => match x, y with
  | .str [c], .str z => Q (.bl (!decide (c ∈ z)))
  | _, _ => False
theorem ops_inS : OpS K (fun x y H Q => ∃ (c : Nat) (z : Str), x = .str ⟨#[c]⟩ ∧ y = .str z ∧ Q (.bl (decide (c ∈ z.cps.toList))) H) oInS := by
  intro F H x y v u Q k s r1 r2 h c
  unfold oInS at h
  split at h
  · obtain rfl := r1
    obtain rfl := r2
    exact ⟨_, _, rfl, rfl, by simpa using c _ H (.bl _) F (.refl _ _) rfl h⟩
  · exact h.elim
theorem ops_notInS : OpS K (fun x y H Q => ∃ (c : Nat) (z : Str), x = .str ⟨#[c]⟩ ∧ y = .str z ∧ Q (.bl (!decide (c ∈ z.cps.toList))) H) oNotInS := by
  intro F H x y v u Q k s r1 r2 h c
  unfold oNotInS at h
  split at h
  · obtain rfl := r1
    obtain rfl := r2
    exact ⟨_, _, rfl, rfl, by simpa using c _ H (.bl _) F (.refl _ _) rfl h⟩
  · exact h.elim
theorem pd_inS {wa wb : DE} (ha : PD X n a wa) (hb : PD X n b wb) (hm : behindInMarks .In b = false := by with_unfolding_all rfl) : PD X n (.Compare a [.In] [b] pos) (wOp oInS wa wb) := pd_cmp op_in_sign ops_inS hm ha hb
theorem pd_notInS {wa wb : DE} (ha : PD X n a wa) (hb : PD X n b wb) (hm : behindInMarks .NotIn b = false := by with_unfolding_all rfl) : PD X n (.Compare a [.NotIn] [b] pos) (wOp oNotInS wa wb) := pd_cmp op_notIn_sign ops_notInS hm ha hb
/-- a flat value in a row of flat ones -/
def flatD : D → Option V
  | .non => some .non
  | .bl b => some (.bl b)
  | .int i => some (.int i)
  | .str x => some (.str (mkS x))
  | _ => none
def flatsD : List D → Option (List V)
  | [] => some []
  | d :: ds => match flatD d, flatsD ds with
    | some v, some vs => some (v :: vs)
    | _, _ => none
theorem flatD_rep {F : Hp} {d : D} {v z : V} (e : flatD d = some z) (r : Rep K F d v) : v = z ∧ flatV z = true := by
  cases d <;> first | (cases e; done) | skip
  all_goals (cases e; obtain rfl := r; exact ⟨rfl, rfl⟩)
theorem flatsD_rep {F : Hp} : ∀ {ds : List D} {zs vs : List V}, flatsD ds = some zs → RepL K F ds vs → vs = zs ∧ zs.all flatV = true
  | [], zs, vs, e, r => by cases e; unfold RepL at r; exact ⟨r, rfl⟩
  | d :: ds, zs, vs, e, r => by
    unfold flatsD at e
    cases h1 : flatD d with
    | none => rw [h1] at e; cases e
    | some z =>
      cases h2 : flatsD ds with
      | none => rw [h1, h2] at e; cases e
      | some t =>
        rw [h1, h2] at e; cases e
        unfold RepL at r
        obtain ⟨v, rr, rfl, q1, q2⟩ := r
        obtain ⟨e1, f1⟩ := flatD_rep h1 q1
        obtain ⟨e2, f2⟩ := flatsD_rep h2 q2
        subst e1 e2
        exact ⟨rfl, by rw [List.all_cons, f1, f2]; rfl⟩
def rowOf : D → Option (List D)
  | .lst xs => some xs
  | .tup xs => some xs
  | _ => none
def oInF (neg : Bool) : DOp := fun x y Q => ∃ z xs vs, rowOf y = some xs ∧ flatD x = some z ∧ flatsD xs = some vs ∧ Q (.bl (if neg then !inV z vs else inV z vs))
theorem ops_inF (neg : Bool) : OpS K (rIn K neg) (oInF neg) := by
  intro F H x y v u Q k s r1 r2 h c
  obtain ⟨z, xs, vs, e0, e1, e2, q⟩ := h
  obtain ⟨rfl, f1⟩ := flatD_rep e1 r1
  have fin := c _ H (.bl _) F (.refl _ _) rfl q
  cases y <;> first | (cases e0; done) | skip
  · cases e0
    unfold Rep at r2
    obtain ⟨p, us, rfl, h1, h2⟩ := r2
    obtain ⟨rfl, f2⟩ := flatsD_rep e2 h2
    exact ⟨p, us, rfl, .inr (h1.sq s), f1, f2, fin⟩
  · cases e0
    unfold Rep at r2
    obtain ⟨p, us, rfl, h1, h2⟩ := r2
    obtain ⟨rfl, f2⟩ := flatsD_rep e2 h2
    exact ⟨p, us, rfl, .inl (.of (s _ _ h1)), f1, f2, fin⟩
theorem pd_inF {wa wb : DE} (ha : PD X n a wa) (hb : PD X n b wb) (hm : behindInMarks .In b = false := by with_unfolding_all rfl) : PD X n (.Compare a [.In] [b] pos) (wOp (oInF false) wa wb) := pd_cmp op_in_seq (ops_inF false) hm ha hb
theorem pd_notInF {wa wb : DE} (ha : PD X n a wa) (hb : PD X n b wb) (hm : behindInMarks .NotIn b = false := by with_unfolding_all rfl) : PD X n (.Compare a [.NotIn] [b] pos) (wOp (oInF true) wa wb) := pd_cmp op_notIn_seq (ops_inF true) hm ha hb
theorem ptd_inF {wa wb : DE} (ha : PD X n a wa) (hb : PD X n b wb) (hm : behindInMarks .In b = false := by with_unfolding_all rfl) : PTD X n (.Compare a [.In] [b] pos) (wTest (wOp (oInF false) wa wb)) := ptd_cmp op_in_seq (ops_inF false) hm ha hb
theorem ptd_inS {wa wb : DE} (ha : PD X n a wa) (hb : PD X n b wb) (hm : behindInMarks .In b = false := by with_unfolding_all rfl) : PTD X n (.Compare a [.In] [b] pos) (wTest (wOp oInS wa wb)) := ptd_cmp op_in_sign ops_inS hm ha hb
theorem ptd_lt {wa wb : DE} (ha : PD X n a wa) (hb : PD X n b wb) : PTD X n (.Compare a [.Lt] [b] pos) (wTest (wOp oLt wa wb)) := ptd_cmp op_lt ops_lt (nomark _) ha hb
theorem ptd_le {wa wb : DE} (ha : PD X n a wa) (hb : PD X n b wb) : PTD X n (.Compare a [.LtE] [b] pos) (wTest (wOp oLe wa wb)) := ptd_cmp op_le ops_le (nomark _) ha hb
theorem ptd_gt {wa wb : DE} (ha : PD X n a wa) (hb : PD X n b wb) : PTD X n (.Compare a [.Gt] [b] pos) (wTest (wOp oGt wa wb)) := ptd_cmp op_gt ops_gt (nomark _) ha hb
theorem ptd_ge {wa wb : DE} (ha : PD X n a wa) (hb : PD X n b wb) : PTD X n (.Compare a [.GtE] [b] pos) (wTest (wOp oGe wa wb)) := ptd_cmp op_ge ops_ge (nomark _) ha hb
theorem ptd_eq {wa wb : DE} {k : Nat} (hr : Room k X.A) (ha : PD X n a wa) (hb : PD X n b wb) : PTD X n (.Compare a [.Eq] [b] pos) (wTest (wOp oEq wa wb)) := ptd_cmp (op_eqD hr.units) ops_eq (nomark _) ha hb
theorem ptd_ne {wa wb : DE} {k : Nat} (hr : Room k X.A) (ha : PD X n a wa) (hb : PD X n b wb) : PTD X n (.Compare a [.NotEq] [b] pos) (wTest (wOp oNe wa wb)) := ptd_cmp (op_neD hr.units) ops_ne (nomark _) ha hb
/-- is None -/
def oIsN : DOp := fun x y Q => match y with
  | .non => Q (.bl (match x with | .non => true | _ => false))
  | _ => False
theorem ops_isN : OpS K (fun x y H Q => y = .non ∧ Q (.bl (decide (x = .non))) H) oIsN := by
  intro F H x y v u Q k s r1 r2 h c
  cases y <;> first | exact (show False from h).elim | skip
  refine ⟨r2, ?_⟩
  cases x with
  | non => obtain rfl := r1; exact c _ H (.bl true) F (.refl _ _) rfl h
  | bl b => obtain rfl := r1; exact c _ H (.bl false) F (.refl _ _) rfl h
  | int b => obtain rfl := r1; exact c _ H (.bl false) F (.refl _ _) rfl h
  | str b => obtain rfl := r1; exact c _ H (.bl false) F (.refl _ _) rfl h
  | tup b => unfold Rep at r1; obtain ⟨_, _, rfl, _⟩ := r1; exact c _ H (.bl false) F (.refl _ _) rfl h
  | lst b => unfold Rep at r1; obtain ⟨_, _, rfl, _⟩ := r1; exact c _ H (.bl false) F (.refl _ _) rfl h
  | dic _ _ => unfold Rep at r1; obtain ⟨_, _, _, rfl, _⟩ := r1; exact c _ H (.bl false) F (.refl _ _) rfl h
  | exc _ _ _ => unfold Rep at r1; obtain ⟨_, _, _, _, rfl, _⟩ := r1; exact c _ H (.bl false) F (.refl _ _) rfl h
  | lamR _ _ => unfold Rep at r1; obtain ⟨_, _, rfl, _⟩ := r1; exact c _ H (.bl false) F (.refl _ _) rfl h
  | lam _ _ _ => unfold Rep at r1; obtain ⟨_, _, _, _, rfl, _⟩ := r1; exact c _ H (.bl false) F (.refl _ _) rfl h
  | ins _ _ _ => unfold Rep at r1; obtain ⟨_, _, _, rfl, _⟩ := r1; exact c _ H (.bl false) F (.refl _ _) rfl h
  | ty _ => obtain rfl := r1; exact c _ H (.bl false) F (.refl _ _) rfl h
  | cls _ => obtain rfl := r1; exact c _ H (.bl false) F (.refl _ _) rfl h
theorem pd_isN {wa wb : DE} (ha : PD X n a wa) (hb : PD X n b wb) : PD X n (.Compare a [.Is] [b] pos) (wOp oIsN wa wb) := pd_cmp op_isN ops_isN (nomark _) ha hb
theorem ptd_isN {wa wb : DE} (ha : PD X n a wa) (hb : PD X n b wb) : PTD X n (.Compare a [.Is] [b] pos) (wTest (wOp oIsN wa wb)) := ptd_cmp op_isN ops_isN (nomark _) ha hb
/-- x in y, whatever y is -/
def oIn (neg : Bool) : DOp := fun x y Q => match y with
  | .str z => match x with
    | .str [c] => Q (.bl (if neg then !decide (c ∈ z) else decide (c ∈ z)))
    | _ => False
  | .lst xs => oInF neg x (.lst xs) Q
  | .tup xs => oInF neg x (.tup xs) Q
  | _ => False
theorem oIn_or (x y : D) (Q : D → Prop) (h : oIn false x y Q) : oInS x y Q ∨ oInF false x y Q := by
  cases y <;> first | exact (show False from h).elim | skip
  · rename_i z
    unfold oIn at h
    dsimp only at h
    split at h
    · exact .inl h
    · exact h.elim
  · exact .inr h
  · exact .inr h
theorem oNotIn_or (x y : D) (Q : D → Prop) (h : oIn true x y Q) : oNotInS x y Q ∨ oInF true x y Q := by
  cases y <;> first | exact (show False from h).elim | skip
  · rename_i z
    unfold oIn at h
    dsimp only at h
    split at h
    · exact .inl h
    · exact h.elim
  · exact .inr h
  · exact .inr h
theorem pd_in {wa wb : DE} (ha : PD X n a wa) (hb : PD X n b wb) (hm : behindInMarks .In b = false := by with_unfolding_all rfl) : PD X n (.Compare a [.In] [b] pos) (wOp (oIn false) wa wb) :=
  pd_cmp (op_in_sign.or op_in_seq) ((ops_inS.or (ops_inF false)).imp oIn_or) hm ha hb
theorem pd_notIn {wa wb : DE} (ha : PD X n a wa) (hb : PD X n b wb) (hm : behindInMarks .NotIn b = false := by with_unfolding_all rfl) : PD X n (.Compare a [.NotIn] [b] pos) (wOp (oIn true) wa wb) :=
  pd_cmp (op_notIn_sign.or op_notIn_seq) ((ops_notInS.or (ops_inF true)).imp oNotIn_or) hm ha hb
theorem ptd_in {wa wb : DE} (ha : PD X n a wa) (hb : PD X n b wb) (hm : behindInMarks .In b = false := by with_unfolding_all rfl) : PTD X n (.Compare a [.In] [b] pos) (wTest (wOp (oIn false) wa wb)) :=
  ptd_cmp (op_in_sign.or op_in_seq) ((ops_inS.or (ops_inF false)).imp oIn_or) hm ha hb
theorem ptd_notIn {wa wb : DE} (ha : PD X n a wa) (hb : PD X n b wb) (hm : behindInMarks .NotIn b = false := by with_unfolding_all rfl) : PTD X n (.Compare a [.NotIn] [b] pos) (wTest (wOp (oIn true) wa wb)) :=
  ptd_cmp (op_notIn_sign.or op_notIn_seq) ((ops_notInS.or (ops_inF true)).imp oNotIn_or) hm ha hb
/-- len of data, of a list of the store -/
def wLen (wr : DE) : DE := fun st Q E => wr st (fun v st1 => match v with
  | .d x => oLen [x] fun z => Q (.d z) st1
  | .loc j => match st1.μ[j]? with
    | some (.lst xs) => Q (.d (.int xs.length)) st1
    | _ => False
  | _ => False) E
theorem pd_len {pp : Pos} (hg : Gl X "len") (hm : X.mg "len" = none) (h : PD X n e we) (he : starEach [e] X.env = (false, eval e X.env) :: starEach [] X.env := by rfl) : PD X n (.Call (.Name "len" pp) [e] [] pos) (wLen we) :=
  pd_of (pe_callB call_len2 hg hm PySem.boot_len (pa_cons h.pe pa_nil he) (by decide) (by decide) he rfl) fun σ H F ρ st Q E R tk hw => by
    refine tE.use R tk hw fun v w1 st1 H1 F1 ρ1 p1 R1 r1 h1 => ?_
    cases w1 with
    | scr _ => exact h1.elim
    | d x =>
      refine calls_len F1 H1 [x] [v] _ _ R1.ok.sub (RepL.one r1) h1 fun z H' d F' g rz q => ?_
      obtain ⟨p3, R3⟩ := R1.grow g
      exact ⟨.d d, st1, F', ρ1, p1.trans p3 R1.ok.dom, R3, rz, q⟩
    | loc j =>
      have h1 : (match st1.μ[j]? with
        | some (.lst xs) => Q (.d (.int xs.length)) st1
        | _ => False) := h1
      split at h1
      · rename_i xs ex
        obtain ⟨q, vs, rfl, e1, f, h3, h4⟩ := loc_lst R1.ok r1 ex
        refine .inl ⟨q, vs, rfl, .inl (.of h3), .d (.int xs.length), st1, F1, ρ1, p1, R1, ?_, h1⟩
        rw [← h4.len]; rfl
      · exact h1.elim
/-- list(a text) -/
def oListS : DCall := fun xs Q => match xs with
  | [.str x] => x.length ≤ 16777216 ∧ Q (.lst (x.map fun c => .str [c]))
  | [.lst ys] => Q (.lst ys)
  | [.tup ys] => Q (.lst ys)
  | _ => False
theorem vals_at : ∀ {xs : List V} {us : List Value}, xs.length = us.length → (∀ (j : Nat) x u, xs[j]? = some x → us[j]? = some u → RelV x u) → Vals xs us
  | [], [], _, _ => .nil
  | [], _ :: _, h, _ => by simp at h
  | _ :: _, [], h, _ => by simp at h
  | x :: xs, u :: us, h, k => .cons (k 0 x u rfl rfl) (vals_at (by simpa using h) fun j a b e1 e2 => k (j + 1) a b (by simpa using e1) (by simpa using e2))
theorem repL_signs {F : Hp} : ∀ x : List Nat, RepL K F (x.map fun c => .str [c]) (x.map fun c => V.str ⟨#[c]⟩)
  | [] => RepL.nil
  | y :: x => RepL.cons rfl (repL_signs x)
def rListStr : List V → Hp → VK → Prop := fun xs H Q => ∃ x : Str, xs = [.str x] ∧ x.length ≤ sizeLine ∧ ∀ l, H l = none → Q (.ref l) (upd H l (.lst (x.cps.toList.map fun c => .str ⟨#[c]⟩)))
theorem call_listStr (hc : X.calm = true) : CallR X (.type "list") rListStr := by
  intro pins s σ H xs us Q I r h
  obtain ⟨x, rfl, hz, q⟩ := h
  cases r with
  | cons r rr =>
    cases rr
    obtain ⟨t, rfl⟩ := r
    refine call_list_str (I.ok.hd hc) x t (fun h' tk acc' c' hk ho hit => ?_) hz
    have hv : Vals (x.cps.toList.map fun c => V.str ⟨#[c]⟩) acc'.toList := by
      refine vals_at (by simp [hit.1]) fun j x0 u e1 e2 => ?_
      obtain ⟨c, tk', h1, h2⟩ := hit.2 j u (by simpa using e2)
      rw [List.getElem?_map] at e1
      have h1' : x.cps.toList[j]? = some c := by simpa using h1
      rw [h1'] at e1
      have e1 : V.str ⟨#[c]⟩ = x0 := Option.some.inj e1
      subst e1
      exact ⟨tk', h2⟩
    refine ⟨.ref s.heap.objs.size, upd H s.heap.objs.size (.lst (x.cps.toList.map fun c => .str ⟨#[c]⟩)), I.laid (t' := tk) hk (Nat.le_refl _) ⟨by rw [List.length_map, Array.length_toList]; exact hz, acc'.toList, c', hv, by simpa using ho⟩, rfl, q _ (I.hok.fresh (Nat.le_refl _))⟩
theorem calls_listS : CallS K (fun xs H Q => rListStr xs H Q ∨ ∃ p ys, xs = [.ref p] ∧ (SqL K H p ys ∨ SqT K H p ys) ∧ ∀ l, H l = none → Q (.ref l) (upd H l (.lst ys))) oListS := by
  refine (CallS.or (o := fun xs Q => match xs with
    | [.str x] => x.length ≤ 16777216 ∧ Q (.lst (x.map fun c => .str [c]))
    | _ => False) ?_ calls_listOf).imp fun x Q h => ?_
  · intro F H xs vs Q k s r h c
    split at h
    · rename_i x
      obtain ⟨v, rfl, q⟩ := repL1 r
      obtain rfl := q
      refine ⟨mkS x, rfl, by rw [mkS_len, sizeLine_eq]; exact h.1, fun l hl => ?_⟩
      have g : Grow F H (upd F l (.lst (x.map fun c => .str ⟨#[c]⟩))) (upd H l (.lst (x.map fun c => .str ⟨#[c]⟩))) := .one hl
      refine c _ _ (.lst (x.map fun c => .str [c])) _ g ?_ h.2
      unfold Rep
      exact ⟨l, _, rfl, upd_same, repL_signs x⟩
    · exact h.elim
  · unfold oListS at h
    split at h
    · exact .inl h
    · exact .inr h
    · exact .inr h
    · exact h.elim
theorem pd_list {pp : Pos} {wa : DA} (hc : X.calm = true) (hg : Gl X "list") (hm : X.mg "list" = none) (ha : PAD X n (e :: es) wa) (he : starEach (e :: es) X.env = (false, eval e X.env) :: starEach es X.env := by rfl) (hpl : (backTo pos (starEach es X.env)).any (·.1) = false := by rfl) :
    PD X n (.Call (.Name "list" pp) (e :: es) [] pos) (wCall oListS wa) := pd_callTy (callR_or (call_listStr hc) call_list_of) calls_listS hg hm (by decide +kernel) ha (by decide) (by decide) he hpl
end
end Dl
namespace Dl
open PySem PySem.Spec PyProof.Rows L2
variable [TheW]

section
variable {X : Cx} {n : En} {a b e o : Expr} {es : List Expr} {pos p : Pos}
theorem pd_gStr {x z : Str} (l : List Nat) (hg : Gl X x) (hm : ∃ t, X.mg x = some (.str z t)) (h : z = mkS l := by decide +kernel) (hd : (x == ("__debug__" : Str)) = false := by decide) : PD X n (.Name x pos) (wC (.str l)) := by
  obtain ⟨t, hm⟩ := hm
  exact pd_glob (v := .str z) hg hm ⟨t, rfl⟩ (fun _ => by subst h; rfl) hd
theorem pd_gInt {x : Str} {i : Int} (hg : Gl X x) (hm : ∃ t, X.mg x = some (.int i t)) (hd : (x == ("__debug__" : Str)) = false := by decide) : PD X n (.Name x pos) (wC (.int i)) := by
  obtain ⟨t, hm⟩ := hm
  exact pd_glob (v := .int i) hg hm ⟨t, rfl⟩ (fun _ => rfl) hd
/-- flat data as the head tells it -/
def dvOf : D → He.Dv
  | .bl b => .bl b
  | .int i => .int i
  | .str x => .str (mkS x)
  | .ty n => .ty n
  | _ => .non
def flatB : D → Bool
  | .non => true
  | .bl _ => true
  | .int _ => true
  | .str _ => true
  | .ty _ => true
  | _ => false
theorem rep_dv {K : PySem.W.Frag} {F : Hp} {d : D} (h : flatB d = true) : Rep K F d ((dvOf d).v K) := by
  cases d <;> first | exact rfl | cases h
theorem repL_dv {K : PySem.W.Frag} {F : Hp} : ∀ {ds : List D}, ds.all flatB = true → RepL K F ds ((ds.map dvOf).map (He.Dv.v K))
  | [], _ => RepL.nil
  | d :: ds, h => by
    rw [List.all_cons, Bool.and_eq_true] at h
    exact RepL.cons (rep_dv h.1) (repL_dv h.2)
theorem rep_tupB {K : PySem.W.Frag} {x : Str} {ds : List D} (h : He.tupB K x (ds.map dvOf) = true) (hf : ds.all flatB = true) (F : Hp) : Rep K F (.tup ds) (.ref (He.ga K x)) := by
  unfold Rep
  refine ⟨_, _, rfl, ?_, repL_dv hf⟩
  rcases He.tupB_ok h (fun _ => none) with (z | ⟨_, z⟩) | z
  · cases z
  · cases z
  · exact .inr z
theorem pd_gTup {x : Str} (ds : List D) (hg : Gl X x) (hm : X.mg x = some (.ref (He.ga X.K x))) (h : He.tupB X.K x (ds.map dvOf) = true) (hf : ds.all flatB = true := by decide +kernel) (hd : (x == ("__debug__" : Str)) = false := by decide) : PD X n (.Name x pos) (wC (.tup ds)) :=
  pd_glob (v := .ref (He.ga X.K x)) hg hm rfl (fun F => rep_tupB h hf F) hd
theorem pd_gTy {x : Str} {T : String} (hg : Gl X x) (hm : X.mg x = none) (hv : bootBuiltins x = some (.type T)) (hn : x ≠ "__name__" := by decide) (hd : (x == ("__debug__" : Str)) = false := by decide) : PD X n (.Name x pos) (wC (.ty T)) :=
  pd_const (pe_bltn (v := .ty T) hg hm hv rfl hn hd) fun _ => rfl
def oMul : DOp := oI (fun i j => .int (i * j)) fun i j => CMul i j ∨ CMulW i j
theorem pd_mul {wa wb : DE} (ha : PD X n a wa) (hb : PD X n b wb) : PD X n (.BinOp a .Mult b pos) (wOp oMul wa wb) :=
  pd_op (op_mul.or op_mulW) (((ops_I (g' := fun i j => .int (i * j)) fun _ _ _ => rfl).or (ops_I (g' := fun i j => .int (i * j)) fun _ _ _ => rfl)).imp fun x y Q h => by
    unfold oMul oI at h
    split at h
    · exact h.1.elim (fun z => .inl ⟨z, h.2⟩) (fun z => .inr ⟨z, h.2⟩)
    · exact h.elim) ha hb
def wNeg (w : DE) : DE := fun st Q E => w st (fun v st1 => match v with
  | .d (.int i) => Q (.d (.int (-i))) st1
  | _ => False) E
theorem pd_neg {wa : DE} (ha : PD X n a wa) : PD X n (.UnaryOp .USub a pos) (wNeg wa) :=
  pd_of (pe_un un_neg ha.pe) fun σ H F ρ st Q E R tk hw => by
    refine tE.use R tk hw fun v w1 st1 H1 F1 ρ1 p1 R1 r1 h1 => ?_
    split at h1
    · rename_i i
      obtain rfl := r1
      exact ⟨_, rfl, .d (.int (-i)), st1, F1, ρ1, p1, R1, rfl, h1⟩
    · exact h1.elim
def truD : D → Option Bool
  | .non => some false
  | .bl b => some b
  | .int i => some (i != 0)
  | .str x => if x.length ≤ 16777216 then some (!x.isEmpty) else none
  | .tup xs => some (!xs.isEmpty)
  | .lst xs => some (!xs.isEmpty)
  | _ => none
def truW (w : W) (μ : List O) : Option Bool := match w with
  | .d x => truD x
  | .loc j => match μ[j]? with
    | some (.lst xs) => some (!xs.isEmpty)
    | _ => none
  | .scr _ => none
def wTru (w : DE) : DT := fun st Q E => w st (fun v st' => match truW v st'.μ with
  | some b => Q b st'
  | none => False) E
theorem RepL.emp {K : PySem.W.Frag} {F : Hp} {ds : List D} {vs : List V} (h : RepL K F ds vs) : ds.isEmpty = vs.isEmpty := by
  have := h.len
  cases ds <;> cases vs <;> simp_all
theorem truD_ok {K : PySem.W.Frag} {F H : Hp} {d : D} {v : V} {k : Bool} (s : SubH F H) (r : Rep K F d v) (e : truD d = some k) : TruV K v H k := by
  cases d <;> first | (cases e; done) | skip
  · cases e; obtain rfl := r; rfl
  · cases e; obtain rfl := r; rfl
  · cases e; obtain rfl := r; rfl
  · rename_i x
    have e : (if x.length ≤ 16777216 then some (!x.isEmpty) else none) = some k := e
    split at e
    · rename_i hz
      cases e
      obtain rfl := r
      refine ⟨by rw [mkS_len, sizeLine_eq]; exact hz, ?_⟩
      rw [mkS_len]
      cases x with
      | nil => rfl
      | cons c x => simp; omega
    · cases e
  · cases e
    unfold Rep at r
    obtain ⟨a, vs, rfl, q1, q2⟩ := r
    exact .inr (.inl ⟨vs, q1.sq s, by rw [q2.emp]⟩)
  · cases e
    unfold Rep at r
    obtain ⟨a, vs, rfl, q1, q2⟩ := r
    exact .inl ⟨vs, .inl (.of (s _ _ q1)), by rw [q2.emp]⟩
theorem ptd_tru {w : DE} (h : PD X n e w) (he : ∀ whole, isTrue e X.env whole = (do let v ← whole; standAt e.pos; holding [v] (truthy v)) := by intro _; rfl) : PTD X n e (wTru w) :=
  ptd_of (pt_truth h.pe he) fun σ H F ρ st Q E R tk hw => by
    refine tE.use R tk hw fun v w1 st1 H1 F1 ρ1 p1 R1 r1 h1 => ?_
    cases w1 with
    | scr _ => exact h1.elim
    | d x =>
      have h1 : (match truD x with | some b => Q b st1 | none => False) := h1
      cases q : truD x with
      | none => rw [q] at h1; exact h1.elim
      | some b => rw [q] at h1; exact ⟨b, truD_ok R1.ok.sub r1 q, st1, F1, ρ1, p1, R1, h1⟩
    | loc j =>
      have h1 : (match (match st1.μ[j]? with
        | some (.lst xs) => some (!xs.isEmpty)
        | _ => none) with | some b => Q b st1 | none => False) := h1
      split at h1
      · rename_i b q
        split at q
        · rename_i xs ex
          cases q
          obtain ⟨p, vs, rfl, e1, f, h3, h4⟩ := loc_lst R1.ok r1 ex
          exact ⟨_, .inl ⟨vs, .inl (.of h3), by rw [h4.emp]⟩, st1, F1, ρ1, p1, R1, h1⟩
        · cases q
      · exact h1.elim
structure FnK (P : Program) (w : World) (K : PySem.W.Frag) (mg : Str → Option Value) (base : Heap) (x : Str) (k m j : Nat) (ks : List Str) (c : DSp) : Prop where
  ex : ∃ f fd ps, FnOk P w K mg base (L2.CX P w) k f fd ps (SpD K m c) ∧ mg x = some (.ref f) ∧ PySem.W.keepIn K (.ref f) = true ∧ ps.length = m ∧ ∀ (s : Shared) (us ws : List Value), us.length = j → us.length + ws.length = m → BindsTo s fd ⟨us, ks.zip ws⟩ (ps.zip (us ++ ws))
structure PKD (X : Cx) (n : En) (kws : List Keyword) (w : DA) : Prop where
  run : ∀ (pos : Pos) (pins : List (Addr × Obj)) (s : Shared) (σ : L2.St) (H F : Hp) (ρ : List Addr) (st : Dst) (Q : List W → Dst → Prop) (E : DX), Inv X pins σ H s → Rl X.K n F ρ st σ H → TkD X n E → w st Q E →
    wpAny (model X.prog X.w) X.A (evalAll ((backToKw pos (keywordEach kws X.env)).map (·.2))) (APD X n pins σ F ρ H Q) X.xe s
theorem pkd_nil : PKD X n [] wNil := ⟨fun _ _ _ σ H F ρ st Q E I R tk hw => wpAny_evalAll_nil ⟨[], [], st, H, F, ρ, I, .nil, Post.refl _ _ _, R, rfl, hw⟩⟩
theorem pkd_cons {nm : Option Str} {kpos : Pos} {kws : List Keyword} {wa : DE} {wr : DA} (ha : PD X n e wa) (hr : PKD X n kws wr) : PKD X n (⟨nm, e, kpos⟩ :: kws) (wCons wa wr) := by
  refine ⟨fun pos pins s σ H F ρ st Q E I R tk hw => ?_⟩
  show wpAny _ _ (evalAll ((do let v ← eval e X.env; standAt pos; pure v) :: (backToKw pos (keywordEach kws X.env)).map (·.2))) _ _ s
  refine wpAny_evalAll_cons (wpAny_bind (thn (ha.run pins s σ H F ρ st _ E I R tk hw) fun u s1 ⟨v, w1, st1, H1, F1, ρ1, I1, r, p1, R1, r1, h1⟩ => wpAny_bind (wpAny_standAt (wpAny_pure ?_))))
  exact thn (hr.run pos pins s1 σ H1 F1 ρ1 st1 _ E I1 R1 tk h1) fun us s2 ⟨vs, ws, st2, H2, F2, ρ2, I2, rv, p2, R2, rw, q⟩ => ⟨v :: vs, w1 :: ws, st2, H2, F2, ρ2, I2, .cons r rv, p1.trans p2 R1.ok.dom, R2, ⟨v, vs, rfl, r1.post p2, rw⟩, q⟩
theorem run_fnKw {k m j : Nat} {ks ps : List Str} {f : Addr} {fd : FuncData} {sp : Sp} {E : L2.St → XK} {pins : List (Addr × Obj)} {σ : L2.St} {H : Hp} {s : Shared} {Q : VK} {us ws : List Value} {vs zs : List V} (F : FnOk X.prog X.w X.K X.mg X.base (L2.CX X.prog X.w) k f fd ps sp) (hr : Room k X.A) (hp : ps.length = m)
    (hb : ∀ (s : Shared) (us ws : List Value), us.length = j → us.length + ws.length = m → BindsTo s fd ⟨us, ks.zip ws⟩ (ps.zip (us ++ ws))) (hj : us.length = j) (hx : PassesAt (L2.CX X.prog X.w) X σ (E σ))
    (I : Inv X pins σ H s) (r : Vals vs us) (rz : Vals zs ws) (h : sp (vs ++ zs) H Q (E σ)) : wpAny (model X.prog X.w) X.A (call (.ref f) us (ks.zip ws)) (EP X pins σ Q) X.xe s := by
  have r2 := r.append rz
  have hl : (us ++ ws).length = ps.length := by rw [← r2.length]; exact F.len _ _ _ _ h
  refine wpAny_call (codeAny_mono (F.run X.A X.stack s H ⟨us, ks.zip ws⟩ (us ++ ws) (vs ++ zs) Q (E σ) hr I.env0 (hb s us ws hj (by rw [← hp, ← hl, List.length_append])) r2 h) fun r s' hq => ?_)
  cases r with
  | error e => exact hx pins H s e s' I hq
  | ok fl =>
    cases fl with
    | ret u => exact I.after hq
    | next => exact False.elim hq
    | brk => exact False.elim hq
    | cont => exact False.elim hq
def wCallK (c : DSp) (m : Nat) (wa wk : DA) : DE := fun st Q E => wa st (fun ws st1 => wk st1 (fun zs st2 => (ws ++ zs).length = m ∧ wFn c (ws ++ zs) st2 Q E) E) E
theorem RepWL.app {K : PySem.W.Frag} {F : Hp} {ρ : List Addr} : ∀ {ws zs : List W} {vs us : List V}, RepWL K F ρ ws vs → RepWL K F ρ zs us → RepWL K F ρ (ws ++ zs) (vs ++ us)
  | [], _, _, _, h, g => by cases h; exact g
  | w :: ws, _, _, _, h, g => by
    obtain ⟨v, r, rfl, q, t⟩ := h
    exact ⟨v, _, rfl, q, t.app g⟩
theorem pd_callK0 {x : Str} {k m : Nat} {c : DSp} {ks : List Str} {kws : List Keyword} {wk : DA} (D : FnK X.prog X.w X.K X.mg X.base x k m 0 ks c) (hr : Room k X.A) (hg : Gl X x) (hkw : PKD X n kws wk)
    (hall : (backToKw pos (keywordEach kws X.env)).all (·.1.isSome) = true := by rfl) (hks : (backToKw pos (keywordEach kws X.env)).filterMap (·.1) = ks := by rfl)
    (hdb : (x == ("__debug__" : Str)) = false := by decide) (hpl : ((backTo pos (starEach [] X.env)).any (·.1) || (backToKw pos (keywordEach kws X.env)).any (·.1.isNone)) = false := by rfl) :
    PD X n (.Call (.Name x p) [] kws pos) (wCallK c m wNil wk) := by
  obtain ⟨f, fd, ps, Fn, hmg, hk, hp, hb⟩ := D.ex
  refine ⟨fun pins s σ H F ρ st Q E I R tk hw => ?_⟩
  refine wpAny_Call_Name_kw (ld_glob I hg hmg ?_ hdb)
  refine PySem.W.callWith_KW0 (h₀ := X.base) I.ok.mod.kin hk hall ?_ hpl
  refine thn (hkw.run pos pins s σ H F ρ st _ E I R tk hw) fun ws s2 ⟨zs, ys, st2, H2, F2, ρ2, I2, rz, p2, R2, rw2, q2⟩ => ⟨I2.kIn, ?_⟩
  rw [hks]
  obtain ⟨l2, q2⟩ := q2
  refine thn (run_fnKw (us := []) (vs := []) Fn hr hp hb rfl (passAt tk σ) I2 .nil rz (call_sp (vs := [] ++ zs) (ws := [] ++ ys) R2 rw2 l2 q2 fun cls d H' z => z)) fun u s3 ⟨v, H3, I3, r3, w', st', F', ρ', p3, R3, rw3, q3⟩ => ?_
  exact ⟨v, w', st', H3, F', ρ', I3, r3, p2.trans p3 R2.ok.dom, R3, rw3, q3⟩
theorem pd_callK {x : Str} {k m j : Nat} {c : DSp} {ks : List Str} {kws : List Keyword} {wa wk : DA} (D : FnK X.prog X.w X.K X.mg X.base x k m j ks c) (hr : Room k X.A) (hg : Gl X x) (ha : PAD X n (e :: es) wa) (hkw : PKD X n kws wk)
    (hall : (backToKw pos (keywordEach kws X.env)).all (·.1.isSome) = true := by rfl) (hks : (backToKw pos (keywordEach kws X.env)).filterMap (·.1) = ks := by rfl)
    (hdb : (x == ("__debug__" : Str)) = false := by decide) (he : starEach (e :: es) X.env = (false, eval e X.env) :: starEach es X.env := by rfl)
    (hpl : ((backTo pos (starEach (e :: es) X.env)).any (·.1) || (backToKw pos (keywordEach kws X.env)).any (·.1.isNone)) = false := by rfl) :
    PD X n (.Call (.Name x p) (e :: es) kws pos) (fun st Q E => wa st (fun ws st1 => wk st1 (fun zs st2 => ws.length = j ∧ (ws ++ zs).length = m ∧ wFn c (ws ++ zs) st2 Q E) E) E) := by
  obtain ⟨f, fd, ps, Fn, hmg, hk, hp, hb⟩ := D.ex
  refine ⟨fun pins s σ H F ρ st Q E I R tk hw => ?_⟩
  refine wpAny_Call_Name_kw (ld_glob I hg hmg ?_ hdb)
  refine PySem.W.callWith_KW (h₀ := X.base) I.ok.mod.kin hk hall (thn (ha.run pos pins s σ H F ρ st _ E I R tk hw) fun us s1 ⟨vs, xs, st1, H1, F1, ρ1, I1, rv, p1, R1, rw1, q1⟩ => ?_) hpl he
  refine thn (hkw.run pos pins s1 σ H1 F1 ρ1 st1 _ E I1 R1 tk q1) fun ws s2 ⟨zs, ys, st2, H2, F2, ρ2, I2, rz, p2, R2, rw2, q2⟩ => ⟨I2.kIn, ?_⟩
  rw [hks]
  obtain ⟨l1, l2, q2⟩ := q2
  refine thn (run_fnKw (us := us) (vs := vs) Fn hr hp hb (by rw [← rv.length, ← rw1.len]; exact l1) (passAt tk σ) I2 rv rz (call_sp (vs := vs ++ zs) (ws := xs ++ ys) R2 ((rw1.post p2).app rw2) l2 q2 fun cls d H' z => z)) fun u s3 ⟨v, H3, I3, r3, w', st', F', ρ', p3, R3, rw3, q3⟩ => ?_
  exact ⟨v, w', st', H3, F', ρ', I3, r3, (p1.trans p2 R1.ok.dom).trans p3 R2.ok.dom, R3, rw3, q3⟩
end
structure Df (K : PySem.W.Frag) (mg : Str → Option Value) (x : Str) (st : Stmt) : Prop where
  ex : ∃ f fd, FunD K x x (defArgs st) (defBody st) (defScope st) [] [] f fd ∧ mg x = some (.ref f)
section
variable {P : Program} {w : World} {K : PySem.W.Frag} {mg : Str → Option Value} {base : Heap} {x : Str} {st : Stmt} {N ps : List Str} {k m : Nat} {c : DSp} {wb : DS}
abbrev BodyD (P : Program) (w : World) (K : PySem.W.Frag) (mg : Str → Option Value) (base : Heap) (x : Str) (st : Stmt) (N : List Str) (k : Nat) (wb : DS) : Prop :=
  ∀ (f : Addr) (cdv : Value) (A : Around) (outer : List Env) (s : Shared) (H : Hp) (E : XK) (n : En), Room k (A.deeper (envOfC x (defScope st) s.heap.objs.size f cdv)) → PSSD (cxD P w K mg base N x (defScope st) f cdv A outer s H E) n (defBody st) wb
theorem fnD_of (D : Df K mg x st) (S : FnScope N ps (defScope st)) (hb : BodyD P w K mg base x st N k wb)
    (hc : ∀ ws μ Q E, ws.length = ps.length → c ws μ Q E → wb { nx := fun st => Q (.d .non) st.μ, rt := Q, ex := fun x st => E x st.μ } ⟨startD N.length ws, μ⟩)
    (bd : ∀ (kV doc pm : Value) (an : Option Addr) (cdv ct : Value) (us : List Value), us.length = ps.length → bindArgs (PySem.W.fnOf x x (defArgs st) (defBody st) (defScope st) .none kV doc pm an cdv ct) ⟨us, []⟩ = pure (ps.zip us)) : FnD P w K mg base x (k + 1) ps.length c := by
  obtain ⟨f, fd, F, hm⟩ := D.ex
  exact ⟨f, fd, ps, ok_ofD F S rfl (fun cdv A outer s H E n hr => hb f cdv A outer s H E n hr) hc, hm, F.kp, F.bindsN bd⟩
theorem fnK_of (j : Nat) (ks : List Str) (D : Df K mg x st) (S : FnScope N ps (defScope st)) (hb : BodyD P w K mg base x st N k wb)
    (hc : ∀ ws μ Q E, ws.length = ps.length → c ws μ Q E → wb { nx := fun st => Q (.d .non) st.μ, rt := Q, ex := fun x st => E x st.μ } ⟨startD N.length ws, μ⟩)
    (bd : ∀ (kV doc pm : Value) (an : Option Addr) (cdv ct : Value) (us ws : List Value), us.length = j → us.length + ws.length = ps.length → bindArgs (PySem.W.fnOf x x (defArgs st) (defBody st) (defScope st) .none kV doc pm an cdv ct) ⟨us, ks.zip ws⟩ = pure (ps.zip (us ++ ws))) : FnK P w K mg base x (k + 1) ps.length j ks c := by
  obtain ⟨f, fd, F, hm⟩ := D.ex
  refine ⟨f, fd, ps, ok_ofD F S rfl (fun cdv A outer s H E n hr => hb f cdv A outer s H E n hr) hc, hm, F.kp, rfl, fun s us ws h1 h2 => ?_⟩
  obtain ⟨oc, od, dV, kV, doc, pm, an, cdv, ct, osl, rfl, lk, hcd, hD, hK⟩ := F.ex
  rcases hD with ⟨_, rfl⟩ | ⟨e, _⟩
  · exact .of_eq (bd kV doc pm an cdv ct us ws h1 h2)
  · exact absurd rfl e
end
end Dl
namespace Dl
open PySem PySem.Spec PyProof.Rows L2 RZ
variable [TheW]
section
variable {X : Cx} {n : En} {a b e o tg : Expr} {es : List Expr} {pos pp : Pos} {wa : DA}
theorem pd_intI (hg : Gl X "int") (hm : X.mg "int" = none) (ha : PAD X n (e :: es) wa) (he : starEach (e :: es) X.env = (false, eval e X.env) :: starEach es X.env := by rfl) (hpl : (backTo pos (starEach es X.env)).any (·.1) = false := by rfl) :
    PD X n (.Call (.Name "int" pp) (e :: es) [] pos) (wCall oIntI wa) := pd_callTy call_int1 calls_int hg hm (by decide +kernel) ha (by decide) (by decide) he hpl
theorem pd_tupOf (hg : Gl X "tuple") (hm : X.mg "tuple" = none) (ha : PAD X n (e :: es) wa) (he : starEach (e :: es) X.env = (false, eval e X.env) :: starEach es X.env := by rfl) (hpl : (backTo pos (starEach es X.env)).any (·.1) = false := by rfl) :
    PD X n (.Call (.Name "tuple" pp) (e :: es) [] pos) (wCall oTupOf wa) := pd_callTy call_tuple_of calls_tupOf hg hm (by decide +kernel) ha (by decide) (by decide) he hpl
theorem pd_all (hc : X.calm = true) (hg : Gl X "all") (hm : X.mg "all" = none) (ha : PAD X n (e :: es) wa) (he : starEach (e :: es) X.env = (false, eval e X.env) :: starEach es X.env := by rfl) (hpl : (backTo pos (starEach es X.env)).any (·.1) = false := by rfl) :
    PD X n (.Call (.Name "all" pp) (e :: es) [] pos) (wCall oAll wa) := pd_callB (cr_all hc) calls_all hg hm (by decide +kernel) ha (by decide) (by decide) he hpl
theorem pd_any (hc : X.calm = true) (hg : Gl X "any") (hm : X.mg "any" = none) (ha : PAD X n (e :: es) wa) (he : starEach (e :: es) X.env = (false, eval e X.env) :: starEach es X.env := by rfl) (hpl : (backTo pos (starEach es X.env)).any (·.1) = false := by rfl) :
    PD X n (.Call (.Name "any" pp) (e :: es) [] pos) (wCall oAny wa) := pd_callB (cr_any hc) calls_any hg hm (by decide +kernel) ha (by decide) (by decide) he hpl
theorem pd_isi {ans : Ty → Ty → Option Bool} (A : AnsOk X.K ans) (hg : Gl X "isinstance") (hm : X.mg "isinstance" = none) (ha : PAD X n (e :: es) wa) (he : starEach (e :: es) X.env = (false, eval e X.env) :: starEach es X.env := by rfl) (hpl : (backTo pos (starEach es X.env)).any (·.1) = false := by rfl) :
    PD X n (.Call (.Name "isinstance" pp) (e :: es) [] pos) (wCall (oIsi ans) wa) := pd_callB call_isi2 (calls_isi A) hg hm (by decide +kernel) ha (by decide) (by decide) he hpl
def oIsNotN : DOp := fun x y Q => match y with
  | .non => Q (.bl (match x with | .non => false | _ => true))
  | _ => False
theorem ops_isNotN {K : PySem.W.Frag} : OpS K (fun x y H Q => y = .non ∧ Q (.bl (!decide (x = .non))) H) oIsNotN := by
  intro F H x y v u Q k s r1 r2 h c
  cases y <;> first | exact (show False from h).elim | skip
  refine ⟨r2, ?_⟩
  cases x with
  | non => obtain rfl := r1; exact c _ H (.bl false) F (.refl _ _) rfl h
  | bl b => obtain rfl := r1; exact c _ H (.bl true) F (.refl _ _) rfl h
  | int b => obtain rfl := r1; exact c _ H (.bl true) F (.refl _ _) rfl h
  | str b => obtain rfl := r1; exact c _ H (.bl true) F (.refl _ _) rfl h
  | tup b => unfold Rep at r1; obtain ⟨_, _, rfl, _⟩ := r1; exact c _ H (.bl true) F (.refl _ _) rfl h
  | lst b => unfold Rep at r1; obtain ⟨_, _, rfl, _⟩ := r1; exact c _ H (.bl true) F (.refl _ _) rfl h
  | dic _ _ => unfold Rep at r1; obtain ⟨_, _, _, rfl, _⟩ := r1; exact c _ H (.bl true) F (.refl _ _) rfl h
  | exc _ _ _ => unfold Rep at r1; obtain ⟨_, _, _, _, rfl, _⟩ := r1; exact c _ H (.bl true) F (.refl _ _) rfl h
  | lamR _ _ => unfold Rep at r1; obtain ⟨_, _, rfl, _⟩ := r1; exact c _ H (.bl true) F (.refl _ _) rfl h
  | lam _ _ _ => unfold Rep at r1; obtain ⟨_, _, _, _, rfl, _⟩ := r1; exact c _ H (.bl true) F (.refl _ _) rfl h
  | ins _ _ _ => unfold Rep at r1; obtain ⟨_, _, _, rfl, _⟩ := r1; exact c _ H (.bl true) F (.refl _ _) rfl h
  | ty _ => obtain rfl := r1; exact c _ H (.bl true) F (.refl _ _) rfl h
  | cls _ => obtain rfl := r1; exact c _ H (.bl true) F (.refl _ _) rfl h
theorem pd_isNotN {wa wb : DE} (ha : PD X n a wa) (hb : PD X n b wb) : PD X n (.Compare a [.IsNot] [b] pos) (wOp oIsNotN wa wb) := pd_cmp op_notN ops_isNotN (nomark _) ha hb
theorem ptd_isNotN {wa wb : DE} (ha : PD X n a wa) (hb : PD X n b wb) : PTD X n (.Compare a [.IsNot] [b] pos) (wTest (wOp oIsNotN wa wb)) := ptd_cmp op_notN ops_isNotN (nomark _) ha hb
def zipD (xs ys : List D) : List D := List.zipWith (fun x y => .tup [x, y]) xs ys
theorem rep_pair {K : PySem.W.Frag} {F H : Hp} {T : Addr} {x y : V} {d e : D} (s : SubH F H) (h : H T = none) (r1 : Rep K F d x) (r2 : Rep K F e y) : Grow F H (upd F T (.tup [x, y])) (upd H T (.tup [x, y])) ∧ Rep K (upd F T (.tup [x, y])) (.tup [d, e]) (.ref T) := by
  have g : Grow F H (upd F T (.tup [x, y])) (upd H T (.tup [x, y])) := .one h
  refine ⟨g, ?_⟩
  unfold Rep
  exact ⟨T, [x, y], rfl, .inl upd_same, RepL.cons (Rep.sub (g.sub s) _ _ r1) (RepL.one (Rep.sub (g.sub s) _ _ r2))⟩
theorem zipD_get {xs ys : List D} {i : Nat} {d e : D} (h1 : xs[i]? = some d) (h2 : ys[i]? = some e) : (zipD xs ys)[i]? = some (.tup [d, e]) := by
  unfold zipD
  rw [List.getElem?_zipWith, h1, h2]
theorem itd_zip {K : PySem.W.Frag} {F0 : Hp} {p q : Addr} {vs us : List V} {xs ys : List D} (h1 : F0 p = some (.lst vs)) (h2 : F0 q = some (.lst us)) (r1 : RepL K F0 xs vs) (r2 : RepL K F0 ys us) : ItD K F0 (Itz K p q) (zipD xs ys) where
  go := fun i F H s1 s2 hi => by
    have hi : i < min xs.length ys.length := by simpa [zipD] using hi
    obtain ⟨v, e, _⟩ := r1.get (i := i) (d := xs[i]'(by omega)) (by simp)
    obtain ⟨u, e', _⟩ := r2.get (i := i) (d := ys[i]'(by omega)) (by simp)
    exact ⟨vs, us, v, u, .inl (.of (s2 _ _ (s1 _ _ h1))), .inl (.of (s2 _ _ (s1 _ _ h2))), e, e'⟩
  yld := fun i F H x H' s1 s2 hi y => by
    obtain ⟨T, v, u, rfl, hT, rfl, y1, y2⟩ := y
    obtain ⟨d, e, q⟩ := r1.getV (y1 vs (.inl (.of (s2 _ _ (s1 _ _ h1)))))
    obtain ⟨d', e', q'⟩ := r2.getV (y2 us (.inl (.of (s2 _ _ (s1 _ _ h2)))))
    obtain ⟨g, r⟩ := rep_pair s2 hT (Rep.sub s1 _ _ q) (Rep.sub s1 _ _ q')
    exact ⟨_, _, zipD_get e e', g, r⟩
  stop := fun i F H s1 s2 hi => ⟨vs, us, .inl (.of (s2 _ _ (s1 _ _ h1))), .inl (.of (s2 _ _ (s1 _ _ h2))), by
    have hi : min xs.length ys.length ≤ i := by simpa [zipD] using hi
    rw [← r1.len, ← r2.len]; omega⟩
theorem itd_zipT {K : PySem.W.Frag} {F0 : Hp} {p q : Addr} {vs us : List V} {xs ys : List D} (h1 : TupAt K F0 p vs) (h2 : TupAt K F0 q us) (r1 : RepL K F0 xs vs) (r2 : RepL K F0 ys us) : ItD K F0 (ItzT K p q) (zipD xs ys) where
  go := fun i F H s1 s2 hi => by
    have hi : i < min xs.length ys.length := by simpa [zipD] using hi
    obtain ⟨v, e, _⟩ := r1.get (i := i) (d := xs[i]'(by omega)) (by simp)
    obtain ⟨u, e', _⟩ := r2.get (i := i) (d := ys[i]'(by omega)) (by simp)
    exact ⟨vs, us, v, u, (h1.sub s1).sq s2, (h2.sub s1).sq s2, e, e'⟩
  yld := fun i F H x H' s1 s2 hi y => by
    obtain ⟨T, v, u, rfl, hT, rfl, y1, y2⟩ := y
    obtain ⟨d, e, q⟩ := r1.getV (y1 vs ((h1.sub s1).sq s2))
    obtain ⟨d', e', q'⟩ := r2.getV (y2 us ((h2.sub s1).sq s2))
    obtain ⟨g, r⟩ := rep_pair s2 hT (Rep.sub s1 _ _ q) (Rep.sub s1 _ _ q')
    exact ⟨_, _, zipD_get e e', g, r⟩
  stop := fun i F H s1 s2 hi => ⟨vs, us, (h1.sub s1).sq s2, (h2.sub s1).sq s2, by
    have hi : min xs.length ys.length ≤ i := by simpa [zipD] using hi
    rw [← r1.len, ← r2.len]; omega⟩
def wZip (wa : DA) : DI := fun st Q E => wa st (fun ws st1 => match ws with
  | [.d (.lst xs), .d (.lst ys)] => Q (zipD xs ys) st1
  | [.d (.tup xs), .d (.tup ys)] => Q (zipD xs ys) st1
  | _ => False) E
theorem pid_zip {elts : List Expr} {kk : Nat} {tpos : Pos} (hg : Gl X "zip") (hm : X.mg "zip" = none) (ha : PAD X n [a, b] wa) (hs : starEach [a, b] X.env = (false, eval a X.env) :: starEach [b] X.env := by rfl) (hpl : (backTo pos (starEach [b] X.env)).any (·.1) = false := by rfl) :
    PID X n (.Tuple elts kk tpos) (.Call (.Name "zip" pp) [a, b] [] pos) (wZip wa) :=
  pid_of (pi_zipA hg hm ha.pa hs hpl) fun σ H F ρ st Q E R tk hw => by
    refine tA.use R tk hw fun vs ws st1 H1 F1 ρ1 p1 R1 r1 h1 => ?_
    split at h1
    · rename_i xs ys
      obtain ⟨v, r, rfl, q1, u, r, rfl, q2, rfl⟩ := r1
      have q1 : Rep X.K F1 (.lst xs) v := q1
      have q2 : Rep X.K F1 (.lst ys) u := q2
      unfold Rep at q1 q2
      obtain ⟨p, vs, rfl, e1, s1⟩ := q1
      obtain ⟨q, us, rfl, e2, s2⟩ := q2
      exact ⟨p, q, vs, us, rfl, .inl ⟨.inl (.of (R1.ok.sub _ _ e1)), .inl (.of (R1.ok.sub _ _ e2)), _, st1, F1, ρ1, p1, R1, itd_zip e1 e2 s1 s2, h1⟩⟩
    · rename_i xs ys
      obtain ⟨v, r, rfl, q1, u, r, rfl, q2, rfl⟩ := r1
      have q1 : Rep X.K F1 (.tup xs) v := q1
      have q2 : Rep X.K F1 (.tup ys) u := q2
      unfold Rep at q1 q2
      obtain ⟨p, vs, rfl, e1, s1⟩ := q1
      obtain ⟨q, us, rfl, e2, s2⟩ := q2
      exact ⟨p, q, vs, us, rfl, .inr ⟨e1.sq R1.ok.sub, e2.sq R1.ok.sub, _, st1, F1, ρ1, p1, R1, itd_zipT e1 e2 s1 s2, h1⟩⟩
    · exact h1.elim
theorem _root_.Dl.PD.imp {w w' : DE} (h : PD X n e w) (i : ∀ st Q E, w' st Q E → w st Q E) : PD X n e w' := ⟨fun pins s σ H F ρ st Q E I R tk hw => h.run pins s σ H F ρ st Q E I R tk (i st Q E hw)⟩
def wCalN (m : Nat) (c : DSp) (wa : DA) : DE := fun st Q E => wa st (fun ws st1 => ws.length = m ∧ wFn c ws st1 Q E) E
def wCallKJ (c : DSp) (j m : Nat) (wa wk : DA) : DE := fun st Q E => wa st (fun ws st1 => wk st1 (fun zs st2 => ws.length = j ∧ (ws ++ zs).length = m ∧ wFn c (ws ++ zs) st2 Q E) E) E
theorem pd_calN {x : Str} {k m : Nat} {c : DSp} {wa : DA} {p : Pos} (D : FnD X.prog X.w X.K X.mg X.base x k m c) (hr : Room k X.A) (hg : Gl X x) (ha : PAD X n (e :: es) wa) (hm : (e :: es).length = m := by rfl) (hdb : (x == ("__debug__" : Str)) = false := by decide)
    (he : starEach (e :: es) X.env = (false, eval e X.env) :: starEach es X.env := by rfl) (hpl : (backTo pos (starEach es X.env)).any (·.1) = false := by rfl) : PD X n (.Call (.Name x p) (e :: es) [] pos) (wCalN m c wa) := by
  obtain ⟨f, fd, ps, Fn, hmg, hk, hb⟩ := D.ex
  refine ⟨fun pins s σ H F ρ st Q E I R tk hw => ?_⟩
  refine wpAny_Call_Name_kw (ld_glob I hg hmg ?_ hdb)
  refine PySem.W.callWith_K (h₀ := X.base) I.ok.mod.kin hk (thn (ha.run pos pins s σ H F ρ st _ E I R tk hw) fun us s1 ⟨vs, ws, st1, H1, F1, ρ1, I1, r, p1, R1, rw, q⟩ => ⟨I1.kIn, ?_⟩) he hpl
  refine thn (run_fnS Fn hr hb (passAt tk σ) I1 r (call_sp R1 rw q.1 q.2 fun cls d H' z => z)) fun u s2 ⟨v, H2, I2, r2, w', st', F', ρ', p2, R2, rw2, q2⟩ => ?_
  exact ⟨v, w', st', H2, F', ρ', I2, r2, p1.trans p2 R1.ok.dom, R2, rw2, q2⟩
end
end Dl
namespace Dl
open PySem PySem.Spec PyProof.Rows L2
variable [TheW]

theorem wForL_ind {g : DG} {tb : DS} {B : DEnds} (I : List D → Dst → Prop) (end_ : ∀ st, I [] st → B.nx st)
    (step : ∀ x xs st, I (x :: xs) st → ∀ K : Dst → Prop, (∀ st', I xs st' → K st') → g (.d x) st (fun st1 => tb { B with nx := K, ct := K, bk := B.nx } st1) B.ex) : ∀ xs st, I xs st → wForL g tb B xs st
  | [], st, h => end_ st h
  | x :: xs, st, h => step x xs st h _ fun st' h' => wForL_ind I end_ step xs st' h'
theorem wLcL_ind {g : DG} {tt : DT} {te : DE} {δ : List (Option W)} {Q : List D → List O → Prop} (I : List D → List D → List O → Prop) (end_ : ∀ acc μ, I [] acc μ → Q acc μ)
    (step : ∀ x xs acc μ, I (x :: xs) acc μ → ∀ K : List D → List O → Prop, (∀ acc' μ', I xs acc' μ' → K acc' μ') →
      g (.d x) ⟨δ, μ⟩ (fun st2 => tt st2 (fun b st3 => brD b (te st3 (fun y st4 => match y with
      | .d d => acc.length < 16777216 ∧ K (acc ++ [d]) st4.μ
      | _ => False) (fun _ _ => False)) (K acc st3.μ)) (fun _ _ => False)) (fun _ _ => False)) : ∀ xs acc μ, I xs acc μ → wLcL g tt te δ Q xs acc μ
  | [], acc, μ, h => end_ acc μ h
  | x :: xs, acc, μ, h => step x xs acc μ h _ fun acc' μ' h' => wLcL_ind I end_ step xs acc' μ' h'
theorem ixN_lit (n i : Nat) (h : i < n) : ixN n (i : Int) = some i := by
  unfold ixN
  rw [if_pos (by omega), if_pos (by omega)]
  simp
theorem eqI {i j : Int} {Q : D → Prop} (h : Q (.bl (decide (i = j)))) : oEq (.int i) (.int j) Q := ⟨_, _, rfl, rfl, rfl, rfl, h⟩
theorem isi1 (t T : String) (b : Bool) {tbl : List ((Ty × Ty) × Bool)} {x : D} {Q : D → Prop} (ht : tyOf x = some (.ty t)) (h : ansB (.ty t) (.ty T) = some b) (q : Q (.bl b)) : oIsi (ansW tbl) [x, .ty T] Q := by
  exact ⟨_, _, b, ht, rfl, h, q⟩
theorem isi2 (t T U : String) (b c : Bool) {tbl : List ((Ty × Ty) × Bool)} {x : D} {Q : D → Prop} (ht : tyOf x = some (.ty t)) (h : ansB (.ty t) (.ty T) = some b) (h2 : ansB (.ty t) (.ty U) = some c) (q : Q (.bl (b || c))) : oIsi (ansW tbl) [x, .tup [.ty T, .ty U]] Q := by
  refine ⟨.ty t, [.ty T, .ty U], b || (c || false), ht, rfl, List.cons_ne_nil _ _, ?_, by rw [Bool.or_false]; exact q⟩
  have h : ansW tbl (.ty t) (.ty T) = some b := h
  have h2 : ansW tbl (.ty t) (.ty U) = some c := h2
  simp only [List.foldr_cons, List.foldr_nil, h, h2]
theorem neI {i j : Int} {Q : D → Prop} (h : Q (.bl (!decide (i = j)))) : oNe (.int i) (.int j) Q := ⟨_, _, rfl, rfl, rfl, rfl, h⟩
theorem eqB {i j : Bool} {Q : D → Prop} (h : Q (.bl (i == j))) : oEq (.bl i) (.bl j) Q := by
  refine ⟨_, _, rfl, rfl, rfl, rfl, ?_⟩
  cases i <;> cases j <;> exact h
theorem neB {i j : Bool} {Q : D → Prop} (h : Q (.bl (i != j))) : oNe (.bl i) (.bl j) Q := by
  refine ⟨_, _, rfl, rfl, rfl, rfl, ?_⟩
  cases i <;> cases j <;> exact h
theorem oPow_eq (i j : Int) (Q : D → Prop) : oPow (.int i) (.int j) Q ↔ (CPow i j ∧ Q (.int (i ^ j.toNat))) := Iff.rfl
theorem atI_nat {α : Type} {xs : List α} {i : Int} (h0 : 0 ≤ i) (h1 : i < xs.length) : ∃ x, atI xs i = some x ∧ xs[i.toNat]? = some x := by
  have hl : i.toNat < xs.length := by omega
  refine ⟨xs[i.toNat], ?_, by simp [hl]⟩
  unfold atI ixN
  rw [if_pos h0, if_pos h1]
  simp [hl]
theorem atI_map {xs : List Int} {i : Int} (h0 : 0 ≤ i) (h1 : i < xs.length) : ∃ x, atI (xs.map D.int) i = some (.int x) := by
  obtain ⟨x, e, e2⟩ := atI_nat (xs := xs.map D.int) h0 (by simpa using h1)
  rw [List.getElem?_map] at e2
  cases q : xs[i.toNat]? with
  | none => rw [q] at e2; cases e2
  | some y => rw [q] at e2; cases e2; exact ⟨y, e⟩

def BagOk (o : O) : Prop := ∃ (xs : List Int) (i j k l : Int), o = .lst [.lst (xs.map .int), .int i, .int j, .int k, .int l] ∧ 0 ≤ i ∧ 0 ≤ j ∧ 0 ≤ k ∧ k < 2147483629
/-- a def of data alone -/
def spDat (R : List D → (D → Prop) → (Ex → Prop) → Prop) : DSp := fun ws μ Q E => ∃ ds, ws = ds.map .d ∧ R ds (fun d => Q (.d d) μ) (fun x => E x μ)
/-- a def of the bag and data -/
def spBag (R : List D → (D → Prop) → (Ex → Prop) → Prop) : DSp := fun ws μ Q E => ∃ ds b r, ws = .loc 0 :: ds.map .d ∧ μ = b :: r ∧ BagOk b ∧ R ds (fun d => ∀ b', BagOk b' → Q (.d d) (b' :: r)) (fun x => ∀ b', BagOk b' → E x (b' :: r))
theorem locs_d : ∀ ds : List D, locs (ds.map W.d) = []
  | [] => rfl
  | d :: ds => locs_d ds
theorem ren_d (ls : List Nat) : ∀ ds : List D, (ds.map W.d).map (ren ls) = ds.map W.d
  | [] => rfl
  | d :: ds => congrArg (W.d d :: ·) (ren_d ls ds)
theorem wFn_dat {R : List D → (D → Prop) → (Ex → Prop) → Prop} {ws : List W} {st : Dst} {Q : DQ} {E : DX} (ds : List D) (e : ws = ds.map .d) (h : R ds (fun d => Q (.d d) st) (fun x => E x st)) : wFn (spDat R) ws st Q E := by
  subst e
  have e : ({ st with μ := st.μ ++ [] } : Dst) = st := by rw [List.append_nil]
  refine ⟨ds, by rw [locs_d, ren_d], ?_⟩
  rw [locs_d]
  show R ds (fun d => Q (.d d) { st with μ := st.μ ++ [] }) (fun x => E x { st with μ := st.μ ++ [] })
  rw [e]
  exact h
theorem wFn_bag {R : List D → (D → Prop) → (Ex → Prop) → Prop} {ws : List W} {st : Dst} {Q : DQ} {E : DX} (j : Nat) (ds : List D) (b : O) (e : ws = .loc j :: ds.map .d) (hb : st.μ[j]? = some b) (ok : BagOk b)
    (h : R ds (fun d => ∀ b', BagOk b' → Q (.d d) { st with μ := st.μ.set j b' }) (fun x => ∀ b', BagOk b' → E x { st with μ := st.μ.set j b' })) : wFn (spBag R) ws st Q E := by
  subst e
  have e1 : locs (W.loc j :: ds.map W.d) = [j] := by
    show (if j ∈ locs (ds.map W.d) then locs (ds.map W.d) else j :: locs (ds.map W.d)) = [j]
    rw [locs_d]; simp
  have ej : st.μ.getD j .dead = b := by rw [List.getD_eq_getElem?_getD, hb]; rfl
  refine ⟨ds, b, [], ?_, ?_, ok, ?_⟩
  · rw [e1]
    show W.loc ([j].idxOf j) :: _ = _
    rw [ren_d]; simp
  · rw [e1]
    show [st.μ.getD j .dead] = [b]
    rw [ej]
  · rw [e1]
    have e2 : ∀ b', putB st.μ [j] [b'] = st.μ.set j b' := fun b' => by
      show (st.μ ++ []).set j b' = _
      rw [List.append_nil]
    show R ds (fun d => ∀ b', BagOk b' → Q (.d d) { st with μ := putB st.μ [j] [b'] }) (fun x => ∀ b', BagOk b' → E x { st with μ := putB st.μ [j] [b'] })
    simp only [e2]
    exact h
def sp_law_cells : DSp := fun ws μ Q _ => ∃ xs : List Int, ws = [.scr xs] ∧ ∀ b, BagOk b → Q (.loc μ.length) (μ ++ [b])
theorem wFn_cells {ws : List W} {st : Dst} {Q : DQ} {E : DX} (xs : List Int) (e : ws = [.scr xs]) (h : ∀ b, BagOk b → Q (.loc st.μ.length) { st with μ := st.μ ++ [b] }) : wFn sp_law_cells ws st Q E := by
  subst e
  exact ⟨xs, rfl, fun b hb => h b hb⟩
def sp_law_draw : DSp := spBag fun ds Q _ => ∃ k : Int, ds = [.int k] ∧ 0 < k ∧ k < 2 ^ 62 ∧ ∀ d : Int, 0 ≤ d → d < k → Q (.int d)
/-- len(the things) is drawn from -/
def lenD : D → Option Nat
  | .lst xs => some xs.length
  | .tup xs => some xs.length
  | .str x => if x.length ≤ 16777216 then some x.length else none
  | _ => none
def sp_law_any : DSp := spBag fun ds Q _ => ∃ (x : D) (m : Nat), ds = [x] ∧ lenD x = some m ∧ 0 < m ∧ (m : Int) < 2 ^ 62 ∧ ∀ i : Nat, i < m → oIx x (.int i) Q
def wb_law_cells : DS := (wSeq (wAsg (wC (.int 5605)) (gN 1))
  (wSeq (wFor (wIt (wSlScr (wVar 0) wNoPart (wPart (wC (.int 63))))) (gN 2) (wAsg (wOp oMod (wCall oIntI (wCons (wOp oAdd (wOp oAdd (wOp oMul (wVar 1) (wC (.int 48271))) (wOp oMod (wCall oIntI (wCons (wVar 2) wNil)) (wC (.int 2147483543)))) (wC (.int 17))) wNil)) (wC (.int 2147483629))) (gN 1)))
  (wRet (wLstN (wCons (wCall oListS (wCons (wSlScr (wVar 0) wNoPart (wPart (wC (.int 63)))) wNil)) (wCons (wC (.int 0)) (wCons (wC (.int 0)) (wCons (wVar 1) (wCons (wC (.int 0)) wNil)))))))))
def wb_draw2 : DS := (wSeq (wIfS (wTest (wOp oGt (wIx (wVar 0) (wC (.int 2))) (wC (.int 0)))) (wSeq (wAsg (wOp oMod (wCall oIntI (wCons (wIx (wVar 0) (wC (.int 2))) wNil)) (wVar 1)) (gN 3))
  (wSeq (wAsg (wOp oFdiv (wIx (wVar 0) (wC (.int 2))) (wVar 1)) (gSub (wVar 0) (wC (.int 2))))
  (wRet (wVar 3)))) wNext)
  (wSeq (wAsg (wIx (wVar 0) (wC (.int 3))) (gN 4))
  (wSeq (wAsg (wOp oMod (wCall oIntI (wCons (wOp oAdd (wOp oAdd (wOp oAdd (wOp oPow (wVar 4) (wC (.int 3))) (wOp oMul (wVar 4) (wC (.int 40503)))) (wOp oMul (wIx (wVar 0) (wC (.int 4))) (wC (.int 1299721)))) (wC (.int 12345))) wNil)) (wC (.int 2147483629))) (gSub (wVar 0) (wC (.int 3))))
  (wRet (wOp oMod (wCall oIntI (wCons (wOp oAdd (wOp oFdiv (wIx (wVar 0) (wC (.int 3))) (wC (.int 83))) (wOp oMul (wOp oMod (wCall oIntI (wCons (wIx (wVar 0) (wC (.int 3))) wNil)) (wC (.int 7919))) (wC (.int 53)))) wNil)) (wVar 1))))))
def wb_law_draw : DS := (wSeq (wAsg (wOp oAdd (wIx (wVar 0) (wC (.int 4))) (wC (.int 1))) (gSub (wVar 0) (wC (.int 4))))
  (wSeq (wIfS (wAndT (wTest (wOp oEq (wIx (wVar 0) (wC (.int 2))) (wC (.int 0)))) (wTest (wOp oLt (wIx (wVar 0) (wC (.int 1))) (wLen (wIx (wVar 0) (wC (.int 0))))))) (wSeq (wAsg (wIx (wIx (wVar 0) (wC (.int 0))) (wIx (wVar 0) (wC (.int 1)))) (gN 2))
  (wSeq (wAsg (wOp oAdd (wIx (wVar 0) (wC (.int 1))) (wC (.int 1))) (gSub (wVar 0) (wC (.int 1))))
  (wIfS (wTest (wOp oGe (wVar 2) (wOp oPow (wC (.int 10)) (wC (.int 18))))) (wAsg (wVar 2) (gSub (wVar 0) (wC (.int 2)))) (wAsg (wOp oMod (wCall oIntI (wCons (wOp oAdd (wOp oAdd (wOp oMul (wIx (wVar 0) (wC (.int 3))) (wC (.int 39373))) (wOp oMul (wOp oMod (wCall oIntI (wCons (wVar 2) wNil)) (wC (.int 2147483543))) (wC (.int 40692)))) (wC (.int 31))) wNil)) (wC (.int 2147483629))) (gSub (wVar 0) (wC (.int 3))))))) wNext)
  wb_draw2))
def wb_law_any (c : DSp) : DS := (wRet (wIx (wVar 1) (wCalN 2 c (wCons (wVar 0) (wCons (wLen (wVar 1)) wNil)))))
theorem bag_new (xs : List Int) {k : Int} (h0 : 0 ≤ k) (h1 : k < 2147483629) : BagOk (.lst [.lst (xs.map .int), .int 0, .int 0, .int k, .int 0]) := ⟨xs, 0, 0, k, 0, rfl, by omega, by omega, h0, h1⟩
theorem cutD_map (xs : List Int) (lo hi : Option Int) : cutD (xs.map D.int) lo hi = (cutD xs lo hi).map D.int := by
  unfold cutD
  rw [List.length_map, ← List.map_drop, ← List.map_take]
theorem pure_cells (ws : List W) (μ : List O) (Q : W → List O → Prop) (E : Ex → List O → Prop) (h : sp_law_cells ws μ Q E) : wb_law_cells { nx := fun st => Q (.d .non) st.μ, rt := Q, ex := fun x st => E x st.μ } ⟨startD 3 ws, μ⟩ := by
  obtain ⟨xs, rfl, hq⟩ := h
  have key : ∀ (ys : List D) (st : Dst), (∃ zs : List Int, ys = zs.map D.int) ∧ (∃ k u, st = ⟨[some (.scr xs), some (.d (.int k)), u], μ⟩ ∧ 0 ≤ k ∧ k < 2147483629) →
      wForL (gN 2) (wAsg (wOp oMod (wCall oIntI (wCons (wOp oAdd (wOp oAdd (wOp oMul (wVar 1) (wC (.int 48271))) (wOp oMod (wCall oIntI (wCons (wVar 2) wNil)) (wC (.int 2147483543)))) (wC (.int 17))) wNil)) (wC (.int 2147483629))) (gN 1))
        { nx := (wRet (wLstN (wCons (wCall oListS (wCons (wSlScr (wVar 0) wNoPart (wPart (wC (.int 63)))) wNil)) (wCons (wC (.int 0)) (wCons (wC (.int 0)) (wCons (wVar 1) (wCons (wC (.int 0)) wNil))))))) { nx := fun st => Q (.d .non) st.μ, rt := Q, ex := fun x st => E x st.μ }, rt := Q, ex := fun x st => E x st.μ } ys st := by
    refine wForL_ind (fun ys st => (∃ zs : List Int, ys = zs.map D.int) ∧ (∃ k u, st = ⟨[some (.scr xs), some (.d (.int k)), u], μ⟩ ∧ 0 ≤ k ∧ k < 2147483629)) ?_ ?_
    · rintro st ⟨_, k, u, rfl, h0, h1⟩
      refine ⟨by simp, ?_⟩
      show Q (.loc μ.length) (μ ++ [.lst [.lst (cutD (xs.map D.int) none (some 63)), .int 0, .int 0, .int k, .int 0]])
      rw [cutD_map]
      exact hq _ (bag_new _ h0 h1)
    · rintro x ys st ⟨⟨zs, e⟩, k, u, rfl, h0, h1⟩ K hK
      cases zs with
      | nil => cases e
      | cons z zs =>
        cases e
        refine ⟨.inl (.inr ⟨by decide, by decide⟩), (by decide : (0 : Int) < 2147483543), (by decide : (0 : Int) < 2147483629), ?_⟩
        refine hK _ ⟨⟨zs, rfl⟩, _, _, rfl, Int.emod_nonneg _ (by decide), Int.emod_lt_of_pos _ (by decide)⟩
  exact ⟨key _ _ ⟨⟨cutD xs none (some 63), cutD_map _ _ _⟩, 5605, none, rfl, by decide, by decide⟩⟩
/-- the seed's powers -/
theorem pow_small {k : Int} (h0 : 0 ≤ k) (h1 : k < 2147483629) : CPow k 3 := ⟨by decide, by decide, by omega⟩
theorem pure_draw (ws : List W) (μ : List O) (Q : W → List O → Prop) (E : Ex → List O → Prop) (h : sp_law_draw ws μ Q E) : wb_law_draw { nx := fun st => Q (.d .non) st.μ, rt := Q, ex := fun x st => E x st.μ } ⟨startD 5 ws, μ⟩ := by
  obtain ⟨ds, b, r, rfl, rfl, ⟨xs, i, j, k, l, rfl, hi, hj, hk0, hk1⟩, ⟨n, rfl, n0, n1, hq⟩⟩ := h
  -- behind the first if
  have tail : ∀ (i j k l : Int) (u : Option W), 0 ≤ i → 0 ≤ j → 0 ≤ k → k < 2147483629 →
      wb_draw2
        { nx := fun st => Q (.d .non) st.μ, rt := Q, ex := fun x st => E x st.μ } ⟨[some (.loc 0), some (.d (.int n)), u, none, none], .lst [.lst (xs.map .int), .int i, .int j, .int k, .int l] :: r⟩ := by
    intro i j k l u hi hj hk0 hk1
    have d1 : CDivW j n := ⟨n0, by
      have e : n.natAbs < 2 ^ 62 := by omega
      have := PySem.Flt.log2_lt_of (by decide) e
      omega⟩
    have last : ∀ k : Int, ∀ l : Int, 0 ≤ k → k < 2147483629 → (CDivW k 83 ∧ (0 : Int) < 7919 ∧ (CMul (k % 7919) 53 ∨ CMulW (k % 7919) 53) ∧ 0 < n ∧ Q (.d (.int ((k / 83 + k % 7919 * 53) % n))) (.lst [.lst (xs.map .int), .int i, .int j, .int k, .int l] :: r)) := fun k l hk0 hk1 =>
      ⟨⟨by decide, by decide⟩, by decide, .inl (.inr ⟨by decide, by decide⟩), n0, hq _ (Int.emod_nonneg _ (by omega)) (Int.emod_lt_of_pos _ n0) _ ⟨xs, i, j, k, l, rfl, hi, hj, hk0, hk1⟩⟩
    refine br (fun hj0 => ?_) fun hj0 => ?_
    · exact ⟨n0, d1, hq _ (Int.emod_nonneg _ (by omega)) (Int.emod_lt_of_pos _ n0) _ ⟨xs, i, j / n, k, l, rfl, hi, Int.ediv_nonneg hj (by omega), hk0, hk1⟩⟩
    · exact ⟨pow_small hk0 hk1, .inl (.inr ⟨by decide, by decide⟩), .inl (.inr ⟨by decide, by decide⟩), (by decide : (0:Int) < 2147483629), last _ _ (Int.emod_nonneg _ (by decide)) (Int.emod_lt_of_pos _ (by decide))⟩
  refine eqI ?_
  refine br (fun hj0 => ?_) fun hj0 => ?_
  · refine br (fun hi1 => ?_) fun hi1 => ?_
    · have hi1 : i < ((xs.map D.int).length : Int) := of_decide_eq_true hi1
      obtain ⟨c, e⟩ := atI_map hi (by simpa using hi1)
      have go : ∀ (Q : D → Prop), Q (.int c) → (match atI (xs.map D.int) i with
        | some d => Q d
        | none => False) := fun Q h => by rw [e]; exact h
      refine go (fun d => _) ?_
      refine ⟨⟨by decide, by decide, by decide⟩, ?_⟩
      refine br (fun hc => ?_) fun hc => ?_
      · exact tail (i + 1) c k (l + 1) _ (by omega) (Int.le_trans (by decide) (of_decide_eq_true hc)) hk0 hk1
      · refine ⟨.inl (.inr ⟨by decide, by decide⟩), (by decide : (0 : Int) < 2147483543), .inl (.inr ⟨by decide, by decide⟩), (by decide : (0 : Int) < 2147483629), ?_⟩
        exact tail (i + 1) j _ (l + 1) _ (by omega) hj (Int.emod_nonneg _ (by decide)) (Int.emod_lt_of_pos _ (by decide))
    · exact tail i j k (l + 1) _ hi hj hk0 hk1
  · exact brF rfl (tail i j k (l + 1) _ hi hj hk0 hk1)
theorem ix_nat {α : Type} {xs : List α} {i : Nat} (h : i < xs.length) : atI xs (i : Int) = some xs[i] := by
  obtain ⟨x, e, e2⟩ := atI_nat (xs := xs) (i := (i : Int)) (by omega) (by omega)
  rw [e, ← e2]
  simp [h]
theorem lenD_wLen {x : D} {m : Nat} (h : lenD x = some m) {Q : D → Prop} (q : Q (.int m)) : oLen [x] Q := by
  cases x <;> first | (cases h; done) | skip
  · rename_i x
    have h : (if x.length ≤ 16777216 then some x.length else none) = some m := h
    split at h
    · rename_i hz; cases h; exact ⟨hz, q⟩
    · cases h
  · cases h; exact q
  · cases h; exact q
theorem ix_post {x : D} {m i : Nat} {Q : D → Prop} (hq : ∀ i : Nat, i < m → oIx x (.int i) Q) (h : i < m) : oIx x (.int i) Q := hq i h
theorem oIx_imp {x y : D} {Q R : D → Prop} (h : oIx x y Q) (i : ∀ z, Q z → R z) : oIx x y R := by
  unfold oIx at h ⊢
  split at h
  · split at h
    · exact i _ h
    · exact h
  · split at h
    · exact i _ h
    · exact h
  · refine ⟨h.1, ?_⟩
    have h := h.2
    split at h
    · exact i _ h
    · exact h
  · exact h
theorem pure_any (ws : List W) (μ : List O) (Q : W → List O → Prop) (E : Ex → List O → Prop) (h : sp_law_any ws μ Q E) : wb_law_any sp_law_draw { nx := fun st => Q (.d .non) st.μ, rt := Q, ex := fun x st => E x st.μ } ⟨startD 2 ws, μ⟩ := by
  obtain ⟨ds, b, r, rfl, rfl, ok, ⟨x, m, rfl, hl, m0, m1, hq⟩⟩ := h
  have key : ∀ k : Nat, k = m → ∀ (Q' : DQ) (E' : DX), (∀ (i : Nat) (b' : O), i < m → BagOk b' → Q' (.d (.int i)) ⟨startD 2 [.loc 0, .d x], b' :: r⟩) → wFn sp_law_draw [.loc 0, .d (.int k)] ⟨startD 2 [.loc 0, .d x], b :: r⟩ Q' E' := by
    rintro k rfl Q' E' hk
    refine wFn_bag 0 [.int k] b rfl rfl ok ⟨k, rfl, by omega, m1, fun d d0 d1 b' ok' => ?_⟩
    obtain ⟨i, rfl⟩ := Int.eq_ofNat_of_zero_le d0
    exact hk i b' (by omega) ok'
  cases x <;> first | (cases hl; done) | skip
  · rename_i x
    have hl : (if x.length ≤ 16777216 then some x.length else none) = some m := hl
    split at hl
    · rename_i hz
      cases hl
      exact ⟨hz, rfl, key _ rfl _ _ fun i b' hi ok' => oIx_imp (hq i hi) fun z h => h b' ok'⟩
    · cases hl
  · cases hl; exact ⟨rfl, key _ rfl _ _ fun i b' hi ok' => oIx_imp (hq i hi) fun z h => h b' ok'⟩
  · cases hl; exact ⟨rfl, key _ rfl _ _ fun i b' hi ok' => oIx_imp (hq i hi) fun z h => h b' ok'⟩
end Dl
namespace Dl
open PySem PySem.Spec PyProof.Rows L2
variable [TheW]
/-- the heap without its tables -/
def noT (H : Hp) : Hp := fun b => match H b with
  | some (.tbl _) => none
  | o => o
theorem noT_sub (H : Hp) : SubH (noT H) H := fun b o e => by
  unfold noT at e
  cases q : H b with
  | none => rw [q] at e; cases e
  | some u =>
    rw [q] at e
    cases u <;> first | exact e | cases e
theorem noT_sq {K : PySem.W.Frag} {H : Hp} {a : Addr} {xs : List V} (h : SqL K H a xs) : SqL K (noT H) a xs := by
  rcases h with (h | ⟨o, h⟩) | h
  · exact .inl (.inl (by unfold noT; rw [h]))
  · exact .inl (.inr ⟨o, by unfold noT; rw [h]⟩)
  · exact .inr h
theorem law_sp {K : PySem.W.Frag} {c : DSp} (hc : ∀ xs : List Int, xs.length ≤ 63 → c [.scr xs] [] (fun w _ => w = .d (.bl true)) (fun _ _ => False)) (H : Hp) (a : Addr) (ns : List Int) (hl : ns.length ≤ 63) (h : SqL K H a (ns.map V.int))
    (ht : ∀ p ∈ lamDefs, PySem.W.codeHdIn K (He.cT K p).1 (He.cT K p).2 = true → H (He.cT K p).2 = some (.tbl #[])) :
    SpD K 1 c [.ref a] H (fun v _ => v = .bl true) (fun _ _ _ => False) := by
  refine ⟨noT H, [], [], [.scr ns], _, _, ⟨noT_sub H, rfl, List.nodup_nil, fun _ z => (by cases z), fun i _ _ z _ => (by simp at z), fun p hp e => ⟨#[], by unfold noT; rw [ht p hp e], ht p hp e, trivial, fun pos cv z => by cases z⟩, fun _ z => (by cases z)⟩, ⟨_, _, rfl, ⟨a, rfl, noT_sq h⟩, rfl⟩, rfl, hc ns hl, fun w μ v F ρ H' e _ _ r => ?_, fun x μ cls d F ρ H' z => z.elim⟩
  subst e
  exact r
theorem lawAt_of {l : PySem.W.OpenLaw} {w : World} {K : PySem.W.Frag} {mg : Str → Option Value} {x y : Str} {st : Stmt} {N : List Str} {k : Nat} {c : DSp} {wb : DS} {fa : Addr} {h : Heap} {tf : List He.Defn} (D : Df K mg x st) (S : FnScope N [y] (defScope st)) (hfa : mg x = some (.ref fa))
    (hb : ∀ base : Heap, K.In base → base.Ns mainGlobals mg → (∀ p ∈ tf, LamX.TabB base mg (He.cT K p).1 (He.cT K p).2) → BodyD l.prog w K mg base x st N k wb)
    (hw : ∀ ws μ Q E, ws.length = 1 → c ws μ Q E → wb { nx := fun st => Q (.d .non) st.μ, rt := Q, ex := fun x st => E x st.μ } ⟨startD N.length ws, μ⟩)
    (hc : ∀ xs : List Int, xs.length ≤ 63 → c [.scr xs] [] (fun w _ => w = .d (.bl true)) (fun _ _ => False))
    (KX : K.In h) (hd : ∀ p ∈ tf, PySem.W.codeHdIn K (He.cT K p).1 (He.cT K p).2 = true) (out : ∀ p ∈ tf, K.lookup (He.cT K p).2 = none) (emp : ∀ p ∈ tf, h.get? (He.cT K p).2 = some { cls := .none, data := .fields #[] })
    (tl : ∀ p ∈ lamDefs, PySem.W.codeHdIn K (He.cT K p).1 (He.cT K p).2 = true → p ∈ tf)
    (bd : ∀ (kV doc pm : Value) (an : Option Addr) (cdv ct : Value) (us : List Value), us.length = 1 → bindArgs (PySem.W.fnOf x x (defArgs st) (defBody st) (defScope st) .none kV doc pm an cdv ct) ⟨us, []⟩ = pure ([y].zip us)) :
    LamX.LawAtS l w K (L2.CX l.prog w) (k + 1) 63 y mg fa h := by
  obtain ⟨f, fd, F, hm⟩ := D.ex
  have e := hm.symm.trans hfa
  cases e
  refine ⟨fd, tf.map (He.cT K), SpD K 1 c, fun p z => ?_, fun p z => ?_, fun p z => ?_, fun s v => F.bindsA (ps := [y]) bd s [v] rfl, fun H a ns hl _ hH hS => law_sp hc H a ns hl hS fun p hp e => hH _ (List.mem_map.mpr ⟨p, tl p hp e, rfl⟩), fun base hK hN htab => ?_⟩
  · obtain ⟨q, hq, rfl⟩ := List.mem_map.mp z; exact emp q hq
  · obtain ⟨q, hq, rfl⟩ := List.mem_map.mp z; exact out q hq
  · obtain ⟨q, hq, rfl⟩ := List.mem_map.mp z; exact PySem.W.codeHd_of_K KX (hd q hq)
  exact ok_ofD F S rfl (fun cdv A outer s H E n hr => hb base hK hN (fun p hp => htab _ (List.mem_map.mpr ⟨p, hp, rfl⟩)) _ cdv A outer s H E n hr) hw
omit [TheW] in
theorem cx_no (P : Program) (w : World) (H : Hp) (s : Shared) (e : Value) (s' : Shared) (h : L2.CX P w [] H s (fun _ _ _ => False) e s') : False := by
  obtain ⟨_, _, _, _, _, _, _, _, _, _, _, _, z⟩ := h
  exact z
section
variable {K : PySem.W.Frag} {mg : Str → Option Value} {h : Heap} {fa : List He.Fa} {fn : List He.DefD}
theorem df_of (X : K.In h) (G : h.Ns mainGlobals mg) (c : He.SaysD fa fn K) {i j : Nat} {x : Str} {st : Stmt} (e1 : fn[i]? = some ⟨(x, none), x, x, defArgs st, defBody st, defScope st, [], []⟩) (e2 : fa[j]? = some (.glo x)) : Df K mg x st := by
  obtain ⟨fd, F⟩ := c.def_ i e1
  exact ⟨_, fd, F, He.glo_ok X G (c.fact j e2)⟩
theorem ex_at {bs : List Bool} (h : bs.all id = true) (i : Nat) {b : Bool} (e : bs[i]? = some b) : b = true := List.all_eq_true.mp h b (List.mem_of_getElem? e)
end
end Dl
namespace Dl
open PySem PySem.Spec PyProof.Rows L2
variable [TheW]
mutual
def plainD : Nat → D → Bool
  | 0, _ => false
  | _ + 1, .non => true
  | _ + 1, .bl _ => true
  | _ + 1, .int _ => true
  | _ + 1, .str x => x.all fun c => decide (c < 1114112)
  | n + 1, .tup xs => decide (xs.length ≤ 16777216) && plainL n xs
  | n + 1, .lst xs => decide (xs.length ≤ 16777216) && plainL n xs
  | _ + 1, _ => false
def plainL : Nat → List D → Bool
  | _, [] => true
  | n, d :: ds => plainD n d && plainL n ds
end
def sp_like (n : Nat) : DSp := spDat fun ds Q _ => ∃ d, ds = [d, d] ∧ plainD n d = true ∧ Q (.bl true)
def wb_law_like (an : Ty → Ty → Option Bool) (c : DSp) : DS := (wSeq (wIfS (wTest (wCall (oIsi an) (wCons (wVar 1) (wCons (wTup (wCons (wC (.ty "list")) (wCons (wC (.ty "tuple")) wNil))) wNil)))) (wSeq (wIfS (wOrT (wTest (wOp oNe (wCall (oIsi an) (wCons (wVar 0) (wCons (wC (.ty "list")) wNil))) (wCall (oIsi an) (wCons (wVar 1) (wCons (wC (.ty "list")) wNil))))) (wTest (wOp oNe (wCall (oIsi an) (wCons (wVar 0) (wCons (wC (.ty "tuple")) wNil))) (wCall (oIsi an) (wCons (wVar 1) (wCons (wC (.ty "tuple")) wNil)))))) (wRet (wC (.bl false))) wNext)
  (wRet (wAndV (wOp oEq (wLen (wVar 0)) (wLen (wVar 1))) (wCall oAll (wCons (wLc (wZip (wCons (wVar 0) (wCons (wVar 1) wNil))) (gT 2 (gsCons (gN 2) (gsCons (gN 3) gsNil))) wYes (wCalN 2 c (wCons (wVar 2) (wCons (wVar 3) wNil))) [2, 3]) wNil))))) wNext)
  (wSeq (wIfS (wOrT (wTest (wOp oIsN (wVar 1) (wC .non))) (wTest (wOp oIsN (wVar 0) (wC .non)))) (wRet (wAndV (wOp oIsN (wVar 1) (wC .non)) (wOp oIsN (wVar 0) (wC .non)))) wNext)
  (wSeq (wIfS (wOrT (wTest (wOp oNe (wCall (oIsi an) (wCons (wVar 1) (wCons (wC (.ty "bool")) wNil))) (wCall (oIsi an) (wCons (wVar 0) (wCons (wC (.ty "bool")) wNil))))) (wTest (wOp oNe (wCall (oIsi an) (wCons (wVar 1) (wCons (wC (.ty "int")) wNil))) (wCall (oIsi an) (wCons (wVar 0) (wCons (wC (.ty "int")) wNil)))))) (wRet (wC (.bl false))) wNext)
  (wRet (wAndV (wOp oEq (wCall (oIsi an) (wCons (wVar 1) (wCons (wC (.ty "str")) wNil))) (wCall (oIsi an) (wCons (wVar 0) (wCons (wC (.ty "str")) wNil)))) (wOp oEq (wVar 0) (wVar 1)))))))
theorem bools_true (k : Nat) : bools (List.replicate k (.bl true)) = some (List.replicate k true) := by
  induction k with
  | zero => rfl
  | succ k ih =>
    rw [List.replicate_succ, List.replicate_succ]
    unfold bools
    rw [ih]
theorem all_true (k : Nat) : (List.replicate k true).all id = true := by
  rw [List.all_eq_true]
  intro x hx
  rw [List.eq_of_mem_replicate hx]; rfl
/-- the items of both, each like itself -/
theorem like_rows {n : Nat} {δ : List (Option W)} (hl : ∃ a b, δ = [a, b, none, none]) {Q : List D → List O → Prop} {μ : List O} : ∀ (xs : List D) (j : Nat), plainL n xs = true → j + xs.length ≤ 16777216 → Q (List.replicate (j + xs.length) (.bl true)) μ →
    wLcL (gT 2 (gsCons (gN 2) (gsCons (gN 3) gsNil))) wYes (wCalN 2 (sp_like n) (wCons (wVar 2) (wCons (wVar 3) wNil))) δ Q (zipD xs xs) (List.replicate j (.bl true)) μ
  | [], j, _, _, h => h
  | x :: xs, j, hp, hz, h => by
    obtain ⟨a, b, rfl⟩ := hl
    unfold plainL at hp
    rw [Bool.and_eq_true] at hp
    refine ⟨rfl, ?_⟩
    refine brT rfl ?_
    refine ⟨rfl, ?_⟩
    refine wFn_dat [x, x] rfl ⟨x, rfl, hp.1, ?_⟩
    refine ⟨by rw [List.length_replicate]; simp at hz; omega, ?_⟩
    rw [← List.replicate_succ']
    refine like_rows ⟨a, b, rfl⟩ xs (j + 1) hp.2 (by simp at hz; omega) ?_
    rw [Nat.add_assoc, Nat.add_comm 1, ← List.length_cons (a := x)]
    exact h
theorem eqS {x : List Nat} {Q : D → Prop} (hx : (x.all fun c => decide (c < 1114112)) = true) (h : Q (.bl true)) : oEq (.str x) (.str x) Q := by
  have h1 : SeqAt.shaped (.str (mkS x)) = true := by
    unfold SeqAt.shaped PyData.canLay0
    rw [Bool.and_eq_true]
    exact ⟨by unfold PyData.strOk; simpa [mkS] using hx, by unfold PyData.depth; decide⟩
  refine ⟨_, _, rfl, rfl, h1, h1, ?_⟩
  have e : PyData.eqv (.str (mkS x)) (.str (mkS x)) = true := by unfold PyData.eqv; simp
  rw [e]; exact h
theorem pure_like (tbl : List ((Ty × Ty) × Bool)) (n : Nat) (ws : List W) (μ : List O) (Q : W → List O → Prop) (E : Ex → List O → Prop) (h : sp_like (n + 1) ws μ Q E) : wb_law_like (ansW tbl) (sp_like n) { nx := fun st => Q (.d .non) st.μ, rt := Q, ex := fun x st => E x st.μ } ⟨startD 4 ws, μ⟩ := by
  obtain ⟨ds, rfl, d, rfl, hp, hq⟩ := h
  have mem : ∀ {xs : List D} {R : D → Prop} (μ' : List O) (Q : List D → List O → Prop), plainL n xs = true → xs.length ≤ 16777216 → Q (List.replicate xs.length (.bl true)) μ → ∀ a b, wLcL (gT 2 (gsCons (gN 2) (gsCons (gN 3) gsNil))) wYes (wCalN 2 (sp_like n) (wCons (wVar 2) (wCons (wVar 3) wNil))) [a, b, none, none] Q (zipD xs xs) [] μ := fun {xs} {R} μ' Q h1 h2 h3 a b =>
    like_rows ⟨a, b, rfl⟩ xs 0 h1 (by omega) (by rw [Nat.zero_add]; exact h3)
  cases d with
  | non =>
    refine ⟨by decide, isi2 "NoneType" "list" "tuple" false false rfl (by decide +kernel) (by decide +kernel) ?_⟩
    refine brF rfl ?_
    refine brT rfl (brT rfl (brT rfl ?_))
    exact hq
  | bl b =>
    refine ⟨by decide, isi2 "bool" "list" "tuple" false false rfl (by decide +kernel) (by decide +kernel) ?_⟩
    refine brF rfl (brF rfl (brF rfl ?_))
    refine isi1 "bool" "bool" true rfl (by decide +kernel) ?_
    refine isi1 "bool" "bool" true rfl (by decide +kernel) ?_
    refine neB (brF rfl ?_)
    refine isi1 "bool" "int" true rfl (by decide +kernel) ?_
    refine isi1 "bool" "int" true rfl (by decide +kernel) ?_
    refine neB (brF rfl ?_)
    refine isi1 "bool" "str" false rfl (by decide +kernel) ?_
    refine isi1 "bool" "str" false rfl (by decide +kernel) ?_
    refine eqB (brT rfl ?_)
    refine eqB ?_
    cases b <;> exact hq
  | int i =>
    refine ⟨by decide, isi2 "int" "list" "tuple" false false rfl (by decide +kernel) (by decide +kernel) ?_⟩
    refine brF rfl (brF rfl (brF rfl ?_))
    refine isi1 "int" "bool" false rfl (by decide +kernel) ?_
    refine isi1 "int" "bool" false rfl (by decide +kernel) ?_
    refine neB (brF rfl ?_)
    refine isi1 "int" "int" true rfl (by decide +kernel) ?_
    refine isi1 "int" "int" true rfl (by decide +kernel) ?_
    refine neB (brF rfl ?_)
    refine isi1 "int" "str" false rfl (by decide +kernel) ?_
    refine isi1 "int" "str" false rfl (by decide +kernel) ?_
    refine eqB (brT rfl ?_)
    refine eqI ?_
    rw [decide_eq_true rfl]
    exact hq
  | str x =>
    refine ⟨by decide, isi2 "str" "list" "tuple" false false rfl (by decide +kernel) (by decide +kernel) ?_⟩
    refine brF rfl (brF rfl (brF rfl ?_))
    refine isi1 "str" "bool" false rfl (by decide +kernel) ?_
    refine isi1 "str" "bool" false rfl (by decide +kernel) ?_
    refine neB (brF rfl ?_)
    refine isi1 "str" "int" false rfl (by decide +kernel) ?_
    refine isi1 "str" "int" false rfl (by decide +kernel) ?_
    refine neB (brF rfl ?_)
    refine isi1 "str" "str" true rfl (by decide +kernel) ?_
    refine isi1 "str" "str" true rfl (by decide +kernel) ?_
    refine eqB (brT rfl ?_)
    exact eqS (by unfold plainD at hp; exact hp) hq
  | lst xs =>
    unfold plainD at hp
    rw [Bool.and_eq_true] at hp
    have hz := of_decide_eq_true hp.1
    refine ⟨by decide, isi2 "list" "list" "tuple" true false rfl (by decide +kernel) (by decide +kernel) ?_⟩
    refine brT rfl ?_
    refine isi1 "list" "list" true rfl (by decide +kernel) ?_
    refine isi1 "list" "list" true rfl (by decide +kernel) ?_
    refine neB (brF rfl ?_)
    refine isi1 "list" "tuple" false rfl (by decide +kernel) ?_
    refine isi1 "list" "tuple" false rfl (by decide +kernel) ?_
    refine neB (brF rfl ?_)
    refine eqI ?_
    refine brT (decide_eq_true rfl) ?_
    refine ⟨mem (R := fun _ => True) μ _ hp.2 hz ?_ _ _⟩
    refine ⟨_, bools_true _, ?_⟩
    rw [all_true]
    exact hq
  | tup xs =>
    unfold plainD at hp
    rw [Bool.and_eq_true] at hp
    have hz := of_decide_eq_true hp.1
    refine ⟨by decide, isi2 "tuple" "list" "tuple" false true rfl (by decide +kernel) (by decide +kernel) ?_⟩
    refine brT rfl ?_
    refine isi1 "tuple" "list" false rfl (by decide +kernel) ?_
    refine isi1 "tuple" "list" false rfl (by decide +kernel) ?_
    refine neB (brF rfl ?_)
    refine isi1 "tuple" "tuple" true rfl (by decide +kernel) ?_
    refine isi1 "tuple" "tuple" true rfl (by decide +kernel) ?_
    refine neB (brF rfl ?_)
    refine eqI ?_
    refine brT (decide_eq_true rfl) ?_
    refine ⟨mem (R := fun _ => True) μ _ hp.2 hz ?_ _ _⟩
    refine ⟨_, bools_true _, ?_⟩
    rw [all_true]
    exact hq
  | dic _ _ => unfold plainD at hp; cases hp
  | ins _ _ _ => unfold plainD at hp; cases hp
  | ty _ => unfold plainD at hp; cases hp
  | cls _ => unfold plainD at hp; cases hp
  | exc _ _ _ => unfold plainD at hp; cases hp
  | lamR _ _ => unfold plainD at hp; cases hp
  | lam _ _ _ => unfold plainD at hp; cases hp
/-- no promise at all -/
def spNo : DSp := fun _ _ _ _ => False
end Dl
namespace Dl
open PySem PySem.Spec PyProof.Rows L2
variable [TheW]
def lookD (f : Str) : List Str → List D → Option D
  | k :: ks, d :: ds => if f = k then some d else lookD f ks ds
  | _, _ => none
def putK (f : Str) : List Str → List Str
  | [] => [f]
  | k :: ks => if k = f then k :: ks else k :: putK f ks
def putD (f : Str) (d : D) : List Str → List D → List D
  | k :: ks, x :: ds => if k = f then d :: ds else x :: putD f d ks ds
  | _, _ => [d]
theorem lookD_hit (f : Str) (ks : List Str) (d : D) (ds : List D) : lookD f (f :: ks) (d :: ds) = some d := by
  unfold lookD
  rw [if_pos rfl]
theorem lookD_miss {f k : Str} (h : f ≠ k) (ks : List Str) (d : D) (ds : List D) : lookD f (k :: ks) (d :: ds) = lookD f ks ds := by
  conv => lhs; unfold lookD
  rw [if_neg h]
theorem putK_hit (f : Str) (ks : List Str) : putK f (f :: ks) = f :: ks := by unfold putK; rw [if_pos rfl]
theorem putK_miss {f k : Str} (h : k ≠ f) (ks : List Str) : putK f (k :: ks) = k :: putK f ks := by
  conv => lhs; unfold putK
  rw [if_neg h]
theorem putD_hit (f : Str) (d x : D) (ks : List Str) (ds : List D) : putD f d (f :: ks) (x :: ds) = d :: ds := by unfold putD; rw [if_pos rfl]
theorem putD_miss {f k : Str} (h : k ≠ f) (d x : D) (ks : List Str) (ds : List D) : putD f d (k :: ks) (x :: ds) = x :: putD f d ks ds := by
  conv => lhs; unfold putD
  rw [if_neg h]
section
variable {K : PySem.W.Frag} {F : Hp}
theorem look_rep {f : Str} : ∀ {fs : List (Str × V)} {ks : List Str} {ds : List D} {d : D}, fs.map (·.1) = ks → RepL K F ds (fs.map (·.2)) → lookD f ks ds = some d → ∃ v, fs.lookup f = some v ∧ Rep K F d v
  | [], ks, ds, d, e, _, h => by
    subst e
    cases ds <;> cases h
  | (g, x) :: fs, ks, ds, d, e, r, h => by
    subst e
    cases ds with
    | nil => cases h
    | cons y ds =>
      unfold RepL at r
      obtain ⟨v, t, e2, q, r⟩ := r
      cases e2
      have h : lookD f (g :: fs.map (·.1)) (y :: ds) = some d := h
      by_cases z : f = g
      · subst z
        rw [lookD_hit] at h
        cases h
        exact ⟨x, by simp [List.lookup], q⟩
      · rw [lookD_miss z] at h
        obtain ⟨v, e3, q3⟩ := look_rep rfl r h
        refine ⟨v, ?_, q3⟩
        rw [List.lookup_cons, show (f == g) = false from beq_eq_false_iff_ne.mpr z]
        exact e3
theorem put_rep {f : Str} {d : D} {v : V} (rv : Rep K F d v) : ∀ {fs : List (Str × V)} {ks : List Str} {ds : List D}, fs.map (·.1) = ks → RepL K F ds (fs.map (·.2)) →
    (putF f v fs).map (·.1) = putK f ks ∧ RepL K F (putD f d ks ds) ((putF f v fs).map (·.2))
  | [], ks, ds, e, r => by
    subst e
    exact ⟨rfl, by cases ds <;> exact RepL.one rv⟩
  | (g, x) :: fs, ks, ds, e, r => by
    subst e
    cases ds with
    | nil => unfold RepL at r; cases r
    | cons y ds =>
      unfold RepL at r
      obtain ⟨u, t, e2, q, r⟩ := r
      cases e2
      by_cases z : g = f
      · subst z
        have e : putF g v ((g, x) :: fs) = (g, v) :: fs := by unfold putF; rw [if_pos rfl]
        rw [e]
        exact ⟨(putK_hit g _).symm, by rw [List.map_cons, putD_hit]; exact RepL.cons rv r⟩
      · obtain ⟨h1, h2⟩ := put_rep rv (fs := fs) rfl r
        have e : putF f v ((g, x) :: fs) = (g, x) :: putF f v fs := by
          conv => lhs; unfold putF
          rw [if_neg z]
        rw [e]
        refine ⟨?_, ?_⟩
        · rw [List.map_cons, List.map_cons, putK_miss z, h1]
        · rw [List.map_cons, List.map_cons, putD_miss z]
          exact RepL.cons q h2
end
structure fldP (c f : Str) (v : W) (μ : List O) (Q : D → Prop) : Prop where
  ex : (∃ ks vs d, v = .d (.ins c ks vs) ∧ lookD f ks vs = some d ∧ Q d) ∨ ∃ j ks vs d, v = .loc j ∧ μ[j]? = some (.ins c ks vs) ∧ lookD f ks vs = some d ∧ Q d
def wFld (c f : Str) (w : DE) : DE := fun st Q E => w st (fun v st1 => fldP c f v st1.μ fun d => Q (.d d) st1) E
structure setP (c f : Str) (o x : W) (st : Dst) (Q : Dst → Prop) : Prop where
  ex : ∃ j ks vs d, o = .loc j ∧ x = .d d ∧ st.μ[j]? = some (.ins c ks vs) ∧ ks.length < 1000 ∧ Q { st with μ := st.μ.set j (.ins c (putK f ks) (putD f d ks vs)) }
def wSetF (c f : Str) (wo wv : DE) : DS := fun D st => wv st (fun x st1 => wo st1 (fun o st2 => setP c f o x st2 D.nx) D.ex) D.ex
section
variable {X : Cx} {n : En} {e o value : Expr} {pos pos' : Pos}
theorem loc_ins {K : PySem.W.Frag} {F H : Hp} {ρ : List Addr} {μ : List O} {j : Nat} {v : V} {c : Str} {ks : List Str} {ds : List D} (s : StOk K F ρ μ H) (r : RepW K F ρ (.loc j) v) (h : μ[j]? = some (.ins c ks ds)) :
    ∃ p dx fs, v = .ref p ∧ ρ[j]? = some p ∧ F p = none ∧ H p = some (.ins (He.ga K c) dx fs) ∧ fs.map (·.1) = ks ∧ RepL K F ds (fs.map (·.2)) := by
  obtain ⟨p, e, rfl⟩ := r
  obtain ⟨f, dx, fs, h1, h2, h3⟩ := s.obj j p _ e h
  exact ⟨p, dx, fs, rfl, e, f, h1, h2, h3⟩
theorem pd_fld {c f : Str} {we : DE} (hc : Cls X.K (He.ga X.K c)) (hn : NoAttr X.K (He.ga X.K c) f) (h : PD X n e we) (hb : attributeBase e f X.env (eval e X.env) = eval e X.env := by rfl) : PD X n (.Attribute e f pos) (wFld c f we) :=
  pd_of (pe_fld h.pe hb) fun σ H F ρ st Q E R tk hw => by
    refine tE.use R tk hw fun v w1 st1 H1 F1 ρ1 p1 R1 r1 h1 => ?_
    rcases h1.ex with ⟨ks, vs, d, rfl, l, q⟩ | ⟨j, ks, vs, d, rfl, em, l, q⟩
    · have r1 : Rep X.K F1 (.ins c ks vs) v := r1
      unfold Rep at r1
      obtain ⟨a, dx, fs, rfl, e1, e2, e3⟩ := r1
      obtain ⟨u, e4, e5⟩ := look_rep e2 e3 l
      exact ⟨a, _, dx, fs, u, rfl, R1.ok.sub _ _ e1, hc, hn, e4, .d d, st1, F1, ρ1, p1, R1, e5, q⟩
    · obtain ⟨a, dx, fs, rfl, _, _, e1, e2, e3⟩ := loc_ins R1.ok r1 em
      obtain ⟨u, e4, e5⟩ := look_rep e2 e3 l
      exact ⟨a, _, dx, fs, u, rfl, e1, hc, hn, e4, .d d, st1, F1, ρ1, p1, R1, e5, q⟩
theorem psd_fld {c f : Str} {wo wv : DE} (hc : Cls X.K (He.ga X.K c)) (hn : NoAttr X.K (He.ga X.K c) f) (ho : PD X n o wo) (hv : PD X n value wv) (hs : swapsWith value (some (.Attribute o f pos')) pos.line X.env = pure false := by rfl) :
    PSD X n (.Assign [.Attribute o f pos'] value pos) (wSetF c f wo wv) :=
  psd_of (ps_fld ho.pe hv.pe hs) fun σ H F ρ st D R tk hw => by
    refine tE.use R tk hw fun y w1 st1 H1 F1 ρ1 p1 R1 r1 h1 => ?_
    refine tE.use R1 tk h1 fun v w2 st2 H2 F2 ρ2 p2 R2 r2 h2 => ?_
    obtain ⟨j, ks, vs, d, rfl, rfl, em, hl, q⟩ := h2.ex
    have ry : Rep X.K F2 d y := Rep.sub p2.le _ _ r1
    obtain ⟨a, dx, fs, rfl, er, f0, e1, e2, e3⟩ := loc_ins R2.ok r2 em
    obtain ⟨k1, k2⟩ := put_rep ry e2 e3
    have ok : OOk X.K F2 (upd H2 a (.ins (He.ga X.K c) dx (putF f y fs))) a (.ins c (putK f ks) (putD f d ks vs)) := ⟨f0, dx, _, upd_same, k1, k2⟩
    obtain ⟨p3, R3⟩ := R2.store er ok f0
    refine ⟨a, _, dx, fs, rfl, e1, hc, hn, by rw [← e2, List.length_map] at hl; exact hl, F2, ρ2, _, (p1.trans p2 R1.ok.dom).trans p3 R2.ok.dom, R3, q⟩
end
theorem outer {K : PySem.W.Frag} {F : Hp} {ρ : List Addr} {μ : List O} {H : Hp} (ok : StOk K F ρ μ H) {x dx C : Addr} (hx : H x = none) (hdx : H dx = none) {F' : Hp} {ρ' : List Addr} {H' : Hp} (p : Post F [x] (upd (upd H dx (.own x)) x (.ins C dx [])) F' ρ' H') (s : SubH F' H') (tb : TabsK K F' H') :
    Post F ρ H F' ρ H' ∧ StOk K F' ρ μ H' := by
  have old : ∀ b, H b ≠ none → (upd (upd H dx (.own x)) x (.ins C dx [])) b = H b := fun b hb => by
    have n1 : b ≠ x := fun z => hb (z ▸ hx)
    have n2 : b ≠ dx := fun z => hb (z ▸ hdx)
    rw [upd_ne n1, upd_ne n2]
  have nx1 : ∀ b u, H b = some u → b ∉ [x] := fun b u hb => by
    have n1 : b ≠ x := fun z => by rw [z, hx] at hb; cases hb
    simpa using n1
  have kp : ∀ b u, H b = some u → (∀ ps, u ≠ .tbl ps) → H' b = some u := fun b u hb nt => p.keep b u (by rw [old b (by rw [hb]; simp)]; exact hb) (nx1 b u hb) nt
  have kt : ∀ b u, H b = some u → H' b = some u ∨ ∃ ps qs, u = .tbl ps ∧ H' b = some (.tbl qs) := fun b u hb => p.keepT b u (by rw [old b (by rw [hb]; simp)]; exact hb) (nx1 b u hb)
  have nw : ∀ b, F' b ≠ none → F b ≠ none ∨ H b = none := fun b hb => by
    rcases p.new b hb with z | z | z
    · exact .inl z
    · refine .inr ?_
      cases q : H b with
      | none => rfl
      | some u => rw [old b (by rw [q]; simp), q] at z; cases z
    · refine .inr ?_
      have e : b = x := by simpa using z
      rw [e]; exact hx
  refine ⟨⟨p.le, ⟨[], by simp⟩, fun b hb => (nw b hb).elim .inl fun z => .inr (.inl z), fun b u hb _ => kt b u hb, fun b h1 h2 => absurd h1 h2⟩, ⟨s, ok.len, ok.nd, fun a ha => ?_, fun i a o e1 e2 => ?_, tb, fun a ha ps => ?_⟩⟩
  rotate_left 2
  · cases q : H a with
    | none => exact absurd q (ok.dom a ha)
    | some u => rw [kp a u q fun qs e => ok.notab a ha qs (e ▸ q)]; exact fun y => ok.notab a ha ps (by rw [q]; exact y)
  · have := ok.dom a ha
    cases q : H a with
    | none => exact absurd q this
    | some u => rw [kp a u q fun qs e => ok.notab a ha qs (e ▸ q)]; simp
  · have hd := ok.dom a (List.mem_of_getElem? e1)
    refine (ok.obj i a o e1 e2).mono p.le (fun z => ?_) (fun u z => kp a u z fun qs e => ok.notab a (List.mem_of_getElem? e1) qs (e ▸ z))
    cases q : F' a with
    | none => rfl
    | some u =>
      rcases nw a (by rw [q]; simp) with w | w
      · exact absurd z w
      · exact absurd w hd
theorem outer_frz {K : PySem.W.Frag} {F F' : Hp} {ρ : List Addr} {μ : List O} {H H' : Hp} {x : Addr} {u : HO} (p : Post F ρ H F' ρ H') (ok : StOk K F' ρ μ H') (hx : H x = none) (hr : x ∉ ρ) (f : F' x = none) (h : H' x = some u) (nt : ∀ ps, u ≠ .tbl ps := by intro _ z; cases z) :
    Post F ρ H (upd F' x u) ρ H' ∧ StOk K (upd F' x u) ρ μ H' := by
  have le : SubH F' (upd F' x u) := fun b o e => by rw [upd_ne (ne_of_none e f)]; exact e
  refine ⟨⟨p.le.trans le, p.pre, fun b hb => ?_, p.keepT, p.fresh⟩, ⟨fun b o e => ?_, ok.len, ok.nd, ok.dom, fun i a o e1 e2 => ?_, ok.tabs.ext le fun b ps f e => ⟨by rw [upd_ne (fun z : b = x => by rw [z, h] at e; cases e; exact nt ps rfl)]; exact f, e⟩, ok.notab⟩⟩
  · by_cases z : b = x
    · subst z; exact .inr (.inl hx)
    · rw [upd_ne z] at hb; exact p.new b hb
  · by_cases z : b = x
    · subst z; rw [upd_same] at e; rw [← e]; exact h
    · rw [upd_ne z] at e; exact ok.sub b o e
  · have na : a ≠ x := fun z => hr (z ▸ List.mem_of_getElem? e1)
    exact (ok.obj i a o e1 e2).mono le (fun z => by rw [upd_ne na]; exact z) fun _ z => z
structure MkD (P : Program) (w : World) (K : PySem.W.Frag) (mg : Str → Option Value) (base : Heap) (c : Str) (k m : Nat) (dd : List D) (sp : DSp) : Prop where
  ex : ∃ f fd ps ds dvs, FnOk P w K mg base (L2.CX P w) k f fd ps (SpD K m sp) ∧ Mk K (He.ga K c) f ∧ mg c = some (.ref (He.ga K c)) ∧ Binds K fd ps ds ∧ Vals dvs ds ∧ ∀ F, RepL K F dd dvs
structure makeP (c : Str) (sp : DSp) (m : Nat) (xs : List D) (st : Dst) (Q : DQ) (E : DX) : Prop where
  len : xs.length + 1 = m
  ap : sp (.loc 0 :: xs.map .d) [.ins c [] []] (fun w μ => w = .d .non ∧ ∃ ks vs, μ = [.ins c ks vs] ∧ Q (.d (.ins c ks vs)) st) (fun x _ => E x st)
def wMake (c : Str) (sp : DSp) (m : Nat) (dd : List D) (wa : DA) : DE := fun st Q E => wa st (fun ws st1 => match datas ws with
  | some xs => makeP c sp m (xs ++ dd) st1 Q E
  | none => False) E
section
variable {X : Cx} {n : En} {e o : Expr} {es : List Expr} {pos p : Pos}
theorem run_makeS {k : Nat} {f C : Addr} {fd : FuncData} {ps : List Str} {sp : Sp} {dvs : List V} {ds : List Value} {E : L2.St → XK} {pins : List (Addr × Obj)} {σ : L2.St} {H : Hp} {s : Shared} {Q : VK} {us : List Value} {vs : List V} (M : Mk X.K C f)
    (F : FnOk X.prog X.w X.K X.mg X.base (L2.CX X.prog X.w) k f fd ps sp) (hr : Room (k + 1) X.A) (hb : Binds X.K fd ps ds) (hd : Vals dvs ds) (hx : PassesAt (L2.CX X.prog X.w) X σ (E σ)) (I : Inv X pins σ H s) (r : Vals vs us)
    (h : ∀ x dx, H x = none → H dx = none → dx ≠ x → sp (.ref x :: (vs ++ dvs)) (upd (upd H dx (.own x)) x (.ins C dx [])) (fun v H2 => v = .non ∧ Q (.ref x) H2) (E σ)) : wpAny (model X.prog X.w) X.A (call (.ref C) us) (EP X pins σ Q) X.xe s := by
  have here := h (s.heap.objs.size + 1) s.heap.objs.size (I.hok.fresh (Nat.le_succ _)) (I.hok.fresh (Nat.le_refl _)) (Nat.ne_of_lt (Nat.lt_succ_self _))
  have J := Inv.made (C := C) I
  have rr : Vals (V.ref (s.heap.objs.size + 1) :: (vs ++ dvs)) (Value.ref (s.heap.objs.size + 1) :: (us ++ ds)) := .cons rfl (r.append hd)
  have ll : (Value.ref (s.heap.objs.size + 1) :: us ++ ds).length = ps.length := ((F.len _ _ _ _ here).symm.trans rr.length).symm
  refine wpAny_call (make_map (f := f) I.kIn M.makes M.init (beq_iff_eq.mp M.fn) (codeAny_mono (F.run _ X.stack _ _ ⟨Value.ref (s.heap.objs.size + 1) :: us, []⟩ _ _ _ (E σ) (hr.make C us []) (J.env0.make C us []) (hb _ (Value.ref (s.heap.objs.size + 1) :: us) J.kIn ll) rr here) fun r s' hq => ?_))
  cases r with
  | error e => exact hx pins _ _ e s' J hq
  | ok fl =>
    cases fl with
    | ret u =>
      obtain ⟨v, H', I3, rv, ev, q3⟩ := J.after hq
      subst ev
      exact ⟨rv, ⟨V.ref (s.heap.objs.size + 1), H', I3, rfl, q3⟩⟩
    | next => exact False.elim hq
    | brk => exact False.elim hq
    | cont => exact False.elim hq
/-- what the maker's promise is at the call -/
theorem make_sp {c : Str} {sp : DSp} {m : Nat} {dd xs : List D} {dvs vs : List V} {σ : L2.St} {H F : Hp} {ρ : List Addr} {st : Dst} {Q : DQ} {E : DX} (R : Rl X.K n F ρ st σ H) (r : RepL X.K F xs vs) (rd : ∀ F, RepL X.K F dd dvs) (h : makeP c sp m (xs ++ dd) st Q E) {EX : XK}
    (hE : ∀ cls d H', (∃ st' F' ρ' x, Rl X.K n F' ρ' st' σ H' ∧ ExRep X.K F' x cls d H' ∧ E x st') → EX cls d H') (x dx : Addr) (hx : H x = none) (hdx : H dx = none) (ne : dx ≠ x) :
    SpD X.K m sp (.ref x :: (vs ++ dvs)) (upd (upd H dx (.own x)) x (.ins (He.ga X.K c) dx [])) (fun v H2 => v = .non ∧ ∃ w' st' F' ρ', Post F ρ H F' ρ' H2 ∧ Rl X.K n F' ρ' st' σ H2 ∧ RepW X.K F' ρ' w' (.ref x) ∧ Q w' st') EX := by
  have xr : x ∉ ρ := fun z => R.ok.dom x z hx
  have fx : F x = none := by
    cases q : F x with
    | none => rfl
    | some u => rw [R.ok.sub x u q] at hx; cases hx
  have st0 : StOk X.K F [x] [.ins c [] []] (upd (upd H dx (.own x)) x (.ins (He.ga X.K c) dx [])) := by
    refine ⟨fun b u e => ?_, rfl, by simp, fun a ha => ?_, fun i a o e1 e2 => ?_, R.ok.tabs.ext (SubH.refl F) fun b ps f e => ⟨f, by rw [upd_ne (ne_of_none e hx), upd_ne (ne_of_none e hdx)]; exact e⟩, fun a ha ps => ?_⟩
    rotate_left 3
    · have : a = x := by simpa using ha
      subst this; rw [upd_same]; intro z; cases z
    · have hb := R.ok.sub b u e
      rw [upd_ne (ne_of_none hb hx), upd_ne (ne_of_none hb hdx)]; exact hb
    · have : a = x := by simpa using ha
      subst this; rw [upd_same]; simp
    · cases i with
      | zero =>
        cases e1; cases e2
        exact ⟨fx, dx, [], upd_same, rfl, RepL.nil⟩
      | succ i => simp at e1
  refine ⟨F, [x], [.ins c [] []], .loc 0 :: (xs ++ dd).map .d, _, _, st0, ⟨_, _, rfl, ⟨x, rfl, rfl⟩, RepWL.toD (r.app (rd F))⟩, by simpa using h.len, h.ap, fun w μ v F' ρ' H' q p ok rw => ?_, fun y μ cls d F' ρ' H' q p ok rx => ?_⟩
  · obtain ⟨rfl, ks, fs, rfl, q⟩ := q
    refine ⟨rw, ?_⟩
    obtain ⟨P, ok2⟩ := outer R.ok hx hdx p ok.sub ok.tabs
    obtain ⟨t, et⟩ := p.pre
    have e0 : ρ'[0]? = some x := by rw [et]; rfl
    obtain ⟨f2, dx2, gs, h1, h2, h3⟩ := ok.obj 0 x _ e0 rfl
    obtain ⟨P2, ok3⟩ := outer_frz P ok2 hx xr f2 h1
    refine ⟨.d (.ins c ks fs), st, _, ρ, P2, R.step P2 ok3, ?_, q⟩
    show Rep X.K _ (.ins c ks fs) (.ref x)
    unfold Rep
    exact ⟨x, dx2, gs, rfl, upd_same, h2, RepL.sub (fun b o e => by rw [upd_ne (ne_of_none e f2)]; exact e) _ _ h3⟩
  · obtain ⟨P, ok2⟩ := outer R.ok hx hdx p ok.sub ok.tabs
    exact hE cls d H' ⟨st, F', ρ, y, R.step P ok2, rx, q⟩
theorem pd_make {c : Str} {k m : Nat} {dd : List D} {sp : DSp} {wa : DA} (D : MkD X.prog X.w X.K X.mg X.base c k m dd sp) (hr : Room (k + 1) X.A) (hg : Gl X c) (ha : PAD X n (e :: es) wa) (hdb : (c == ("__debug__" : Str)) = false := by decide)
    (he : starEach (e :: es) X.env = (false, eval e X.env) :: starEach es X.env := by rfl) (hpl : (backTo pos (starEach es X.env)).any (·.1) = false := by rfl) : PD X n (.Call (.Name c p) (e :: es) [] pos) (wMake c sp m dd wa) := by
  obtain ⟨f, fd, ps, ds, dvs, Fn, M, hmg, hb, hd, hrd⟩ := D.ex
  refine ⟨fun pins s σ H F ρ st Q E I R tk hw => ?_⟩
  refine wpAny_Call_Name_kw (ld_glob I hg hmg ?_ hdb)
  refine PySem.W.callWith_K (h₀ := X.base) I.ok.mod.kin M.kp (thn (ha.run pos pins s σ H F ρ st _ E I R tk hw) fun us s1 ⟨vs, ws, st1, H1, F1, ρ1, I1, r, p1, R1, rw, q⟩ => ⟨I1.kIn, ?_⟩) he hpl
  dsimp only at q
  split at q
  · rename_i xs ex
    have ew := datas_map ex
    subst ew
    refine thn (run_makeS (Q := fun v H' => ∃ w' st' F' ρ', Post F1 ρ1 H1 F' ρ' H' ∧ Rl X.K n F' ρ' st' σ H' ∧ RepW X.K F' ρ' w' v ∧ Q w' st') M Fn hr hb hd (passAt tk σ) I1 r (make_sp R1 (RepWL.ofD rw) hrd q fun cls d H' z => z)) fun u s2 ⟨v, H2, I2, r2, w', st', F', ρ', p2, R2, rw2, q2⟩ => ?_
    exact ⟨v, w', st', H2, F', ρ', I2, r2, p1.trans p2 R1.ok.dom, R2, rw2, q2⟩
  · exact q.elim
theorem look_none {K : PySem.W.Frag} {F : Hp} {f : Str} : ∀ {fs : List (Str × V)} {ks : List Str} {ds : List D}, fs.map (·.1) = ks → RepL K F ds (fs.map (·.2)) → lookD f ks ds = none → fs.lookup f = none
  | [], ks, ds, e, _, h => rfl
  | (g, x) :: fs, ks, ds, e, r, h => by
    subst e
    cases ds with
    | nil => unfold RepL at r; cases r
    | cons y ds =>
      unfold RepL at r
      obtain ⟨v, t, e2, q, r⟩ := r
      cases e2
      have h : lookD f (g :: fs.map (·.1)) (y :: ds) = none := h
      by_cases z : f = g
      · subst z
        rw [lookD_hit] at h
        cases h
      · rw [lookD_miss z] at h
        rw [List.lookup_cons, show (f == g) = false from beq_eq_false_iff_ne.mpr z]
        exact look_none rfl r h
/-- an object of the class without an attribute of that name -/
structure metP (c m : Str) (o : W) (μ : List O) (A : Prop) : Prop where
  ob : (∃ ks vs, o = .d (.ins c ks vs) ∧ lookD m ks vs = none) ∨ ∃ j ks vs, o = .loc j ∧ μ[j]? = some (.ins c ks vs) ∧ lookD m ks vs = none
  go : A
theorem metP.at {c m : Str} {o : W} {A : Prop} {F : Hp} {ρ : List Addr} {st : Dst} {σ : L2.St} {H : Hp} {v : V} (h : metP c m o st.μ A) (R : Rl X.K n F ρ st σ H) (r : RepW X.K F ρ o v) :
    ∃ a dx fs, v = .ref a ∧ H a = some (.ins (He.ga X.K c) dx fs) ∧ fs.lookup m = none := by
  rcases h.ob with ⟨ks, vs, rfl, l⟩ | ⟨j, ks, vs, rfl, em, l⟩
  · have r : Rep X.K F (.ins c ks vs) v := r
    unfold Rep at r
    obtain ⟨a, dx, fs, rfl, e1, e2, e3⟩ := r
    exact ⟨a, dx, fs, rfl, R.ok.sub _ _ e1, look_none e2 e3 l⟩
  · obtain ⟨a, dx, fs, rfl, _, _, e1, e2, e3⟩ := loc_ins R.ok r em
    exact ⟨a, dx, fs, rfl, e1, look_none e2 e3 l⟩
structure MtD (P : Program) (w : World) (K : PySem.W.Frag) (mg : Str → Option Value) (base : Heap) (c m : Str) (k j : Nat) (sp : DSp) : Prop where
  ex : ∃ f fd ps, FnOk P w K mg base (L2.CX P w) k f fd ps (SpD K j sp) ∧ Cls K (He.ga K c) ∧ Meth K (He.ga K c) m f ∧ Binds K fd ps []
def wMeth (c m : Str) (j : Nat) (sp : DSp) (wo : DE) (wa : DA) : DE := fun st Q E => wo st (fun o st1 => metP c m o st1.μ (wa st1 (fun ws st2 => (o :: ws).length = j ∧ wFn sp (o :: ws) st2 Q E) E)) E
theorem pd_meth {pl : Sem Bool} {c m : Str} {k j : Nat} {sp : DSp} {wo : DE} {wa : DA} {apos : Pos} (D : MtD X.prog X.w X.K X.mg X.base c m k j sp) (hr : Room k X.A) (ho : PD X n o wo) (ha : PAD X n (e :: es) wa)
    (hst : starEach (e :: es) X.env = (false, eval e X.env) :: starEach es X.env := by rfl) (hpl : (backTo pos (starEach es X.env)).any (·.1) = false := by rfl)
    (ht : eval (.Call (.Attribute o m apos) (e :: es) [] pos) X.env = (do
      let ov ← eval o X.env
      standAt apos.atName
      let (f, first) ← holding [ov] (getMethod ov m pl)
      callWith pos f first (backTo pos (starEach (e :: es) X.env)) (backToKw pos (keywordEach [] X.env))) := by rfl) :
    PD X n (.Call (.Attribute o m apos) (e :: es) [] pos) (wMeth c m j sp wo wa) := by
  obtain ⟨f, fd, ps, Fn, hc, hm, hb⟩ := D.ex
  refine ⟨fun pins s σ H F ρ st Q E I R tk hw => ?_⟩
  refine PySem.W.methodCall_KW (pl := pl) (thn (ho.run pins s σ H F ρ st _ E I R tk hw) fun u s1 ⟨v, o1, st1, H1, F1, ρ1, I1, rv, p1, R1, r1, h1⟩ => ?_) ht
  obtain ⟨a, dx, fs, rfl, ea, l⟩ := h1.at R1 r1
  obtain rfl : u = Value.ref a := rv
  refine getmeth_ok I1 ea hc hm l ?_
  refine PySem.W.callWith_K (first := [.ref a]) (h₀ := X.base) I.ok.mod.kin hm.kp (thn (ha.run pos pins s1 σ H1 F1 ρ1 st1 _ E I1 R1 tk h1.go) fun us s2 ⟨vs, ws, st2, H2, F2, ρ2, I2, r, p2, R2, rw, q⟩ => ⟨I2.kIn, ?_⟩) hst hpl
  refine thn (run_fnS (us := .ref a :: us) (vs := .ref a :: vs) Fn hr hb (passAt tk σ) I2 (.cons rfl r) (call_sp (ws := o1 :: ws) R2 ⟨_, _, rfl, r1.post p2, rw⟩ q.1 q.2 fun cls d H' z => z)) fun u s3 ⟨v, H3, I3, r3, w', st', F', ρ', p3, R3, rw3, q3⟩ => ?_
  exact ⟨v, w', st', H3, F', ρ', I3, r3, (p1.trans p2 R1.ok.dom).trans p3 R2.ok.dom, R3, rw3, q3⟩
theorem pd_meth0 {pl : Sem Bool} {c m : Str} {k j : Nat} {sp : DSp} {wo : DE} {apos : Pos} (D : MtD X.prog X.w X.K X.mg X.base c m k j sp) (hr : Room k X.A) (ho : PD X n o wo)
    (ht : eval (.Call (.Attribute o m apos) [] [] pos) X.env = (do
      let ov ← eval o X.env
      standAt apos.atName
      let (f, first) ← holding [ov] (getMethod ov m pl)
      callWith pos f first (backTo pos (starEach [] X.env)) (backToKw pos (keywordEach [] X.env))) := by rfl) :
    PD X n (.Call (.Attribute o m apos) [] [] pos) (wMeth c m j sp wo wNil) := by
  obtain ⟨f, fd, ps, Fn, hc, hm, hb⟩ := D.ex
  refine ⟨fun pins s σ H F ρ st Q E I R tk hw => ?_⟩
  refine PySem.W.methodCall_KW (pl := pl) (thn (ho.run pins s σ H F ρ st _ E I R tk hw) fun u s1 ⟨v, o1, st1, H1, F1, ρ1, I1, rv, p1, R1, r1, h1⟩ => ?_) ht
  obtain ⟨a, dx, fs, rfl, ea, l⟩ := h1.at R1 r1
  obtain rfl : u = Value.ref a := rv
  refine getmeth_ok I1 ea hc hm l ?_
  have q : [o1].length = j ∧ wFn sp [o1] st1 Q E := h1.go
  refine PySem.W.callWith_K0 (first := [.ref a]) I1.kIn hm.kp ?_
  refine thn (run_fnS (us := [.ref a]) (vs := [.ref a]) Fn hr hb (passAt tk σ) I1 (.cons rfl .nil) (call_sp (ws := [o1]) R1 ⟨_, _, rfl, r1, rfl⟩ q.1 q.2 fun cls d H' z => z)) fun u s3 ⟨v, H3, I3, r3, w', st', F', ρ', p3, R3, rw3, q3⟩ => ?_
  exact ⟨v, w', st', H3, F', ρ', I3, r3, p1.trans p3 R1.ok.dom, R3, rw3, q3⟩
/-- o.m(k = v) -/
structure MtK (P : Program) (w : World) (K : PySem.W.Frag) (mg : Str → Option Value) (base : Heap) (c m : Str) (k j i : Nat) (ks : List Str) (sp : DSp) : Prop where
  ex : ∃ f fd ps, FnOk P w K mg base (L2.CX P w) k f fd ps (SpD K j sp) ∧ Cls K (He.ga K c) ∧ Meth K (He.ga K c) m f ∧ ps.length = j ∧ ∀ (s : Shared) (us ws : List Value), us.length = i → us.length + ws.length = j → BindsTo s fd ⟨us, ks.zip ws⟩ (ps.zip (us ++ ws))
theorem pd_methK {pl : Sem Bool} {c m : Str} {k j : Nat} {ks : List Str} {kws : List Keyword} {sp : DSp} {wo : DE} {wk : DA} {apos : Pos} (D : MtK X.prog X.w X.K X.mg X.base c m k j 1 ks sp) (hr : Room k X.A) (ho : PD X n o wo) (hkw : PKD X n kws wk)
    (hall : (backToKw pos (keywordEach kws X.env)).all (·.1.isSome) = true := by rfl) (hks : (backToKw pos (keywordEach kws X.env)).filterMap (·.1) = ks := by rfl)
    (hpl : ((backTo pos (starEach [] X.env)).any (·.1) || (backToKw pos (keywordEach kws X.env)).any (·.1.isNone)) = false := by rfl)
    (ht : eval (.Call (.Attribute o m apos) [] kws pos) X.env = (do
      let ov ← eval o X.env
      standAt apos.atName
      let (f, first) ← holding [ov] (getMethod ov m pl)
      callWith pos f first (backTo pos (starEach [] X.env)) (backToKw pos (keywordEach kws X.env))) := by rfl) :
    PD X n (.Call (.Attribute o m apos) [] kws pos) (wMeth c m j sp wo wk) := by
  obtain ⟨f, fd, ps, Fn, hc, hm, hp, hb⟩ := D.ex
  refine ⟨fun pins s σ H F ρ st Q E I R tk hw => ?_⟩
  refine PySem.W.methodCall_KW (pl := pl) (thn (ho.run pins s σ H F ρ st _ E I R tk hw) fun u s1 ⟨v, o1, st1, H1, F1, ρ1, I1, rv, p1, R1, r1, h1⟩ => ?_) ht
  obtain ⟨a, dx, fs, rfl, ea, l⟩ := h1.at R1 r1
  obtain rfl : u = Value.ref a := rv
  refine getmeth_ok I1 ea hc hm l ?_
  refine PySem.W.callWith_KW0 (first := [.ref a]) (h₀ := X.base) I.ok.mod.kin hm.kp hall ?_ hpl
  refine thn (hkw.run pos pins s1 σ H1 F1 ρ1 st1 _ E I1 R1 tk h1.go) fun ws s2 ⟨zs, ys, st2, H2, F2, ρ2, I2, rz, p2, R2, rw2, q2⟩ => ⟨I2.kIn, ?_⟩
  rw [hks]
  have hrw : RepWL X.K F2 ρ2 (o1 :: ys) (.ref a :: zs) := ⟨_, _, rfl, r1.post p2, rw2⟩
  refine thn (run_fnKw (us := [.ref a]) (vs := [.ref a]) Fn hr hp hb rfl (passAt tk σ) I2 (.cons rfl .nil) rz (call_sp (vs := .ref a :: zs) (ws := o1 :: ys) R2 hrw q2.1 q2.2 fun cls d H' z => z)) fun u s3 ⟨v, H3, I3, r3, w', st', F', ρ', p3, R3, rw3, q3⟩ => ?_
  exact ⟨v, w', st', H3, F', ρ', I3, r3, (p1.trans p2 R1.ok.dom).trans p3 R2.ok.dom, R3, rw3, q3⟩
structure PrD (P : Program) (w : World) (K : PySem.W.Frag) (mg : Str → Option Value) (base : Heap) (c f : Str) (k : Nat) (sp : DSp) : Prop where
  ex : ∃ p g fd ps, FnOk P w K mg base (L2.CX P w) k g fd ps (SpD K 1 sp) ∧ Cls K (He.ga K c) ∧ PropOf K (He.ga K c) f p g ∧ Binds K fd ps []
structure prpP (c : Str) (sp : DSp) (o : W) (st : Dst) (Q : DQ) : Prop where
  ob : (∃ ks vs, o = .d (.ins c ks vs)) ∨ ∃ j ks vs, o = .loc j ∧ st.μ[j]? = some (.ins c ks vs)
  go : wFn sp [o] st Q (fun _ _ => False)
def wProp (c : Str) (sp : DSp) (wo : DE) : DE := fun st Q E => wo st (fun o st1 => prpP c sp o st1 Q) E
theorem pd_prop {c f : Str} {k : Nat} {sp : DSp} {wo : DE} (D : PrD X.prog X.w X.K X.mg X.base c f k sp) (hr : Room (k + 1) X.A) (ho : PD X n o wo) (hb : attributeBase o f X.env (eval o X.env) = eval o X.env := by rfl) : PD X n (.Attribute o f pos) (wProp c sp wo) := by
  obtain ⟨p, g, fd, ps, Fn, hc, hp, hbd⟩ := D.ex
  refine pd_of (pe_prop (dvs := []) (E := fun _ _ _ => False) ho.pe hc hp Fn hr hbd .nil (fun _ _ _ _ _ _ _ ⟨_, _, _, _, _, _, _, _, _, _, _, _, z⟩ => z.elim) hb) fun σ H F ρ st Q E R tk hw => ?_
  refine tE.use R tk hw fun v o1 st1 H1 F1 ρ1 p1 R1 r1 h1 => ?_
  have ob : ∃ a dx fs, v = .ref a ∧ H1 a = some (.ins (He.ga X.K c) dx fs) := by
    rcases h1.ob with ⟨ks, vs, rfl⟩ | ⟨j, ks, vs, rfl, em⟩
    · have r1 : Rep X.K F1 (.ins c ks vs) v := r1
      unfold Rep at r1
      obtain ⟨a, dx, fs, rfl, e1, e2, e3⟩ := r1
      exact ⟨a, dx, fs, rfl, R1.ok.sub _ _ e1⟩
    · obtain ⟨a, dx, fs, rfl, _, _, e1, e2, e3⟩ := loc_ins R1.ok r1 em
      exact ⟨a, dx, fs, rfl, e1⟩
  obtain ⟨a, dx, fs, rfl, ea⟩ := ob
  refine ⟨a, dx, fs, rfl, ea, ?_⟩
  have sp1 := call_sp (X := X) (n := n) (m := 1) (σ := σ) (ws := [o1]) (vs := [.ref a]) (EX := fun _ _ _ => False) R1 ⟨_, _, rfl, r1, rfl⟩ rfl h1.go (fun cls d H' ⟨_, _, _, _, _, _, z⟩ => z)
  obtain ⟨F0, ρ0, μ0, ws0, QD, ED, k1, k2, k3, k4, k5, k6⟩ := sp1
  refine ⟨F0, ρ0, μ0, ws0, QD, ED, k1, k2, k3, k4, fun w μ' v F' ρ' H' a1 a2 a3 a4 => ?_, k6⟩
  obtain ⟨w', st', F2, ρ2, b1, b2, b3, b4⟩ := k5 w μ' v F' ρ' H' a1 a2 a3 a4
  exact ⟨w', st', F2, ρ2, p1.trans b1 R1.ok.dom, b2, b3, b4⟩
end
end Dl
namespace Dl
open PySem PySem.Spec PyProof.Rows L2
variable [TheW]
section
variable {X : Cx} {n : En} {a b c e o : Expr} {es : List Expr} {pos pp p : Pos} {wa : DA}
def strI (i : Int) : List Nat := ((toString i : String) : Str).cps.toList
theorem mkS_strI (i : Int) : mkS (strI i) = (toString i : String) := by
  unfold strI mkS
  simp
def oStrI : DCall := fun xs Q => match xs with
  | [.int i] => i.natAbs.log2 < 1920 ∧ Q (.str (strI i))
  | _ => False
theorem calls_strI {K : PySem.W.Frag} : CallS K (fun xs H Q => ∃ i, xs = [.int i] ∧ i.natAbs.log2 < 1920 ∧ Q (.str (toString i)) H) oStrI := by
  intro F H xs vs Q k s r h c
  unfold oStrI at h
  split at h
  · rename_i i
    obtain ⟨v, rfl, q⟩ := repL1 r
    obtain rfl := q
    refine ⟨i, rfl, h.1, ?_⟩
    have e := mkS_strI i
    rw [← e]
    exact c _ H (.str (strI i)) F (.refl _ _) rfl h.2
  · exact h.elim
theorem pd_strI (hg : Gl X "str") (hm : X.mg "str" = none) (ha : PAD X n (e :: es) wa) (he : starEach (e :: es) X.env = (false, eval e X.env) :: starEach es X.env := by rfl) (hpl : (backTo pos (starEach es X.env)).any (·.1) = false := by rfl) :
    PD X n (.Call (.Name "str" pp) (e :: es) [] pos) (wCall oStrI wa) := pd_callTy call_str_int calls_strI hg hm (by decide +kernel) ha (by decide) (by decide) he hpl
def oAbs : DCall := fun xs Q => match xs with
  | [.int i] => Q (.int (if i < 0 then -i else i))
  | _ => False
theorem calls_abs {K : PySem.W.Frag} : CallS K (fun xs H Q => ∃ i, xs = [.int i] ∧ Q (.int (if i < 0 then -i else i)) H) oAbs := by
  intro F H xs vs Q k s r h c
  unfold oAbs at h
  split at h
  · rename_i i
    obtain ⟨v, rfl, q⟩ := repL1 r
    obtain rfl := q
    exact ⟨i, rfl, c _ H (.int _) F (.refl _ _) rfl h⟩
  · exact h.elim
theorem pd_abs (hg : Gl X "abs") (hm : X.mg "abs" = none) (ha : PAD X n (e :: es) wa) (he : starEach (e :: es) X.env = (false, eval e X.env) :: starEach es X.env := by rfl) (hpl : (backTo pos (starEach es X.env)).any (·.1) = false := by rfl) :
    PD X n (.Call (.Name "abs" pp) (e :: es) [] pos) (wCall oAbs wa) := pd_callB call_abs calls_abs hg hm (by decide +kernel) ha (by decide) (by decide) he hpl
def wFmt (w : DE) : DE := fun st Q E => w st (fun v st1 => match v with
  | .d (.str y) => y.length ≤ 16777216 ∧ Q (.d (.str y)) st1
  | .d (.int i) => i.natAbs.log2 < 1920 ∧ Q (.d (.str (strI i))) st1
  | _ => False) E
theorem pd_fmt {we : DE} (h : PD X n e we) : PD X n (.FormattedValue e (-1) none pos) (wFmt we) :=
  pd_of (pe_fmt h.pe) fun σ H F ρ st Q E R tk hw => by
    refine tE.use R tk hw fun v w1 st1 H1 F1 ρ1 p1 R1 r1 h1 => ?_
    split at h1
    · rename_i y
      obtain rfl := (show v = .str (mkS y) from r1)
      exact .inl ⟨_, rfl, by rw [mkS_len, sizeLine_eq]; exact h1.1, .d (.str y), st1, F1, ρ1, p1, R1, rfl, h1.2⟩
    · rename_i i
      obtain rfl := (show v = .int i from r1)
      exact .inr ⟨_, rfl, h1.1, .d (.str (strI i)), st1, F1, ρ1, p1, R1, by rw [← mkS_strI i]; rfl, h1.2⟩
    · exact h1.elim
inductive PJD (X : Cx) (n : En) : List Expr → List DE → Prop where
  | nil : PJD X n [] []
  | cons {e : Expr} {t : DE} {es : List Expr} {ts : List DE} (h : PD X n e t) (r : PJD X n es ts) : PJD X n (e :: es) (t :: ts)
def wJs : List DE → List Nat → Dst → (List Nat → Dst → Prop) → DX → Prop
  | [], acc, st, Q, _ => Q acc st
  | t :: ts, acc, st, Q, E => t st (fun v st1 => match v with
    | .d (.str y) => (acc ++ y).length ≤ 16777216 ∧ wJs ts (acc ++ y) st1 Q E
    | _ => False) E
theorem PJD.pj {es : List Expr} {ts : List DE} (h : PJD X n es ts) : PJ X es (ts.map (tE X n)) := by
  induction h with
  | nil => exact .nil
  | cons h _ ih => exact .cons h.pe ih
theorem js_sim {Q : DQ} {E : DX} : ∀ {ts : List DE} {acc : List Nat} {σ : L2.St} {H F F0 : Hp} {ρ ρ0 : List Addr} {H0 : Hp} {st : Dst}, Rl X.K n F ρ st σ H → TkD X n E → Post F0 ρ0 H0 F ρ H → wJs ts acc st (fun out st1 => Q (.d (.str out)) st1) E →
    tJs (ts.map (tE X n)) (mkS acc) σ H fun out H1 => ∃ w' st' F' ρ', Post F0 ρ0 H0 F' ρ' H1 ∧ Rl X.K n F' ρ' st' σ H1 ∧ RepW X.K F' ρ' w' (.str out) ∧ Q w' st'
  | [], acc, σ, H, F, F0, ρ, ρ0, H0, st, R, tk, p, h => ⟨.d (.str acc), st, F, ρ, p, R, rfl, h⟩
  | t :: ts, acc, σ, H, F, F0, ρ, ρ0, H0, st, R, tk, p, h => by
    have h : t st (fun v st1 => match v with
      | .d (.str y) => (acc ++ y).length ≤ 16777216 ∧ wJs ts (acc ++ y) st1 (fun out st1 => Q (.d (.str out)) st1) E
      | _ => False) E := h
    show tE X n t σ H _
    refine tE.use R tk h fun v w1 st1 H1 F1 ρ1 p1 R1 r1 h1 => ?_
    split at h1
    · rename_i y
      obtain rfl := (show v = .str (mkS y) from r1)
      refine ⟨_, rfl, by rw [mkS_app, mkS_len, sizeLine_eq]; exact h1.1, ?_⟩
      rw [mkS_app]
      exact js_sim R1 tk (p.trans p1 R.ok.dom) h1.2
    · exact h1.elim
theorem pd_joined {v1 v2 : Expr} {rest : List Expr} {ts : List DE} (h : PJD X n (v1 :: v2 :: rest) ts) : PD X n (.JoinedStr (v1 :: v2 :: rest) pos) (fun st Q E => wJs ts [] st (fun out st1 => Q (.d (.str out)) st1) E) :=
  pd_of (pe_joined h.pj) fun σ H F ρ st Q E R tk hw => js_sim (acc := []) R tk (Post.refl _ _ _) hw
def wPar3 (i j l : Nat) (wa : DA) : DS := fun D st => wa st (fun ws st1 => match ws with
  | [v, w, u] => D.nx { st1 with δ := ((st1.δ.set i (some v)).set j (some w)).set l (some u) }
  | _ => False) D.ex
theorem psd_par3 {i j l : Nat} {x y z : Str} {wa : DA} {px py pz pt : Pos} {kt k2 pt2} (hc : X.calm = true) (hN : X.N.Nodup) (ha : PAD X n [a, b, c] wa) (hi : X.N[i]? = some x := by rfl) (hj : X.N[j]? = some y := by rfl) (hl : X.N[l]? = some z := by rfl) (hij : i ≠ j := by decide) (hil : i ≠ l := by decide) (hjl : j ≠ l := by decide)
    (hx : X.env.scope.names.lookup x = some .local := by rfl) (hy : X.env.scope.names.lookup y = some .local := by rfl) (hz : X.env.scope.names.lookup z = some .local := by rfl)
    (hw : swappedStores [.Tuple [.Name x px, .Name y py, .Name z pz] kt pt] (.Tuple [a, b, c] k2 pt2) X.env = pure (some [x, y, z]) := by rfl)
    (hs : swapsWithSole [.Tuple [.Name x px, .Name y py, .Name z pz] kt pt] (.Tuple [a, b, c] k2 pt2) pos.line X.env = pure false := by rfl) :
    PSD X n (.Assign [.Tuple [.Name x px, .Name y py, .Name z pz] kt pt] (.Tuple [a, b, c] k2 pt2) pos) (wPar3 i j l wa) :=
  psd_of (ps_par3 hc hN hi hj hl hij hil hjl hx hy hz ha.pa hw hs) fun σ H F ρ st D R tk hw => by
    refine tA.use R tk hw fun vs ws st1 H1 F1 ρ1 p1 R1 r1 h1 => ?_
    split at h1
    · obtain ⟨v, r, rfl, q1, w, r, rfl, q2, u, r, rfl, q3, rfl⟩ := r1
      exact ⟨v, w, u, rfl, F1, ρ1, _, p1, ((R1.set i q1).set j q2).set l q3, h1⟩
    · exact h1.elim
theorem pd_gCls {x : Str} (hg : Gl X x) (hm : X.mg x = some (.ref (He.ga X.K x))) (hd : (x == ("__debug__" : Str)) = false := by decide) : PD X n (.Name x pos) (wC (.cls x)) :=
  pd_glob (v := .ref (He.ga X.K x)) hg hm rfl (fun _ => rfl) hd
structure OwnB (K : PySem.W.Frag) (c : Str) (op : Operator) (f : Addr) : Prop where
  at_ : PySem.W.findIn K (.ref (He.ga K c)) (PySem.dunder op.info.2) = some (some (.ref f))
  fn : PySem.W.isFn K (.ref f) = true
  first : PySem.W.selfFirst K (He.ga K c) = true
/-- with an int behind -/
structure OwnR (K : PySem.W.Frag) (c : Str) (op : Operator) : Prop where
  rc : PySem.W.findIn K (.ref (He.ga K c)) (PySem.dunderR op.info.2) = some none
  h1 : ∃ fo, PySem.W.findIn K (.type "int") (PySem.dunder op.info.2) = some fo
  h2 : ∃ ro, PySem.W.findIn K (.type "int") (PySem.dunderR op.info.2) = some ro
  sub : PySem.W.subIn K (.type "int") (.ref (He.ga K c)) = some false
structure OpD (P : Program) (w : World) (K : PySem.W.Frag) (mg : Str → Option Value) (base : Heap) (c : Str) (op : Operator) (k : Nat) (sp : DSp) : Prop where
  ex : ∃ f fd ps, FnOk P w K mg base (L2.CX P w) k f fd ps (SpD K 2 sp) ∧ OwnB K c op f ∧ OwnR K c op ∧ Binds K fd ps []
structure ownP (c : Str) (sp : DSp) (o x : W) (st : Dst) (Q : DQ) (E : DX) : Prop where
  ob : ∃ ks vs, o = .d (.ins c ks vs)
  ri : (∃ i, x = .d (.int i)) ∨ ∃ ks vs, x = .d (.ins c ks vs)
  go : wFn sp [o, x] st Q E
def wOwn (c : Str) (sp : DSp) (wa wb : DE) : DE := fun st Q E => wa st (fun o st1 => wb st1 (fun x st2 => ownP c sp o x st2 Q E) E) E
theorem cmpBack_of {v : V} {u : Value} {Q : Value → Shared → Prop} {s : Shared} (r : RelV v u) (h : Q u s) : PySem.W.CmpBack Q u s := by
  cases v with
  | non => obtain rfl := r; exact h
  | bl _ => obtain rfl := r; exact h
  | int _ => obtain ⟨t, rfl⟩ := r; exact h
  | str _ => obtain ⟨t, rfl⟩ := r; exact h
  | byt _ => obtain ⟨t, rfl⟩ := r; exact h
  | flt _ => obtain ⟨t, rfl⟩ := r; exact h
  | ref _ => obtain rfl := r; exact h
  | ty _ => obtain rfl := r; exact h
theorem pd_own {op : Operator} {cl : Str} {k : Nat} {sp : DSp} {wa wb : DE} (D : OpD X.prog X.w X.K X.mg X.base cl op k sp) (hr : Room k X.A) (ha : PD X n a wa) (hb : PD X n b wb) : PD X n (.BinOp a op b pos) (wOwn cl sp wa wb) := by
  obtain ⟨f, fd, ps, Fn, ob, orr, hbd⟩ := D.ex
  refine ⟨fun pins s σ H F ρ st Q E I R tk hw => ?_⟩
  refine wpAny_BinOp (thn (ha.run pins s σ H F ρ st _ E I R tk hw) fun u1 s1 ⟨v1, o1, st1, H1, F1, ρ1, I1, rv1, p1, R1, r1, h1⟩ => ?_)
  refine thn (hb.run pins s1 σ H1 F1 ρ1 st1 _ E I1 R1 tk h1) fun u2 s2 ⟨v2, x2, st2, H2, F2, ρ2, I2, rv2, p2, R2, r2, h2⟩ => ?_
  obtain ⟨ks, vs, rfl⟩ := h2.ob
  have r1 := r1.post p2
  have q1 : Rep X.K F2 (.ins cl ks vs) v1 := r1
  unfold Rep at q1
  obtain ⟨x, dx, fs, rfl, e1, e2, e3⟩ := q1
  obtain rfl : u1 = Value.ref x := rv1
  obtain ⟨mA, O, _, _, _, _⟩ := ins_get I2.hok (R2.ok.sub _ _ e1)
  obtain ⟨od, J, _⟩ := O.look
  obtain ⟨m, Fr0⟩ := I2.fr
  have call : wpAny (model X.prog X.w) X.A (call (.ref f) [.ref x, u2]) (PySem.W.CmpBack (EPD X n pins σ F ρ H Q)) X.xe s2 := by
    refine thn (run_fnS (us := [.ref x, u2]) (vs := [.ref x, v2]) Fn hr hbd (passAt tk σ) I2 (.cons rfl (.cons rv2 .nil)) (call_sp (ws := [.d (.ins cl ks vs), x2]) R2 ⟨_, _, rfl, r1, _, _, rfl, r2, rfl⟩ rfl h2.go fun cls d H' z => z)) fun u s3 ⟨v, H3, I3, r3, w', st', F', ρ', p3, R3, rw3, q3⟩ => ?_
    exact cmpBack_of r3 ⟨v, w', st', H3, F', ρ', I3, r3, (p1.trans p2 R1.ok.dom).trans p3 R2.ok.dom, R3, rw3, q3⟩
  rcases h2.ri with ⟨i, rfl⟩ | ⟨ks2, vs2, rfl⟩
  · obtain rfl := (show v2 = .int i from r2)
    obtain ⟨t, rfl⟩ := rv2
    obtain ⟨fo, h1⟩ := orr.h1
    obtain ⟨ro, h2⟩ := orr.h2
    exact PySem.W.ksp_binT (T := "int") Fr0 I2.ok.mod.kin J rfl ob.first ob.at_ ob.fn orr.rc (.inl rfl) h1 h2 orr.sub call
  · have q2 : Rep X.K F2 (.ins cl ks2 vs2) v2 := r2
    unfold Rep at q2
    obtain ⟨y, dy, gs, rfl, g1, g2, g3⟩ := q2
    obtain rfl : u2 = Value.ref y := rv2
    obtain ⟨mB, OB, _, _, _, _⟩ := ins_get I2.hok (R2.ok.sub _ _ g1)
    obtain ⟨od2, J2, _⟩ := OB.look
    exact PySem.W.binop_K Fr0 I2.ok.mod.kin J J2.type ob.first ob.at_ ob.fn call
structure negP (c : Str) (sp : DSp) (o : W) (st : Dst) (Q : DQ) (E : DX) : Prop where
  ob : ∃ ks vs, o = .d (.ins c ks vs)
  go : wFn sp [o] st Q E
def wNegO (c : Str) (sp : DSp) (wa : DE) : DE := fun st Q E => wa st (fun o st1 => negP c sp o st1 Q E) E
theorem pd_negO {cl : Str} {k : Nat} {sp : DSp} {wa : DE} (D : MtD X.prog X.w X.K X.mg X.base cl "__neg__" k 1 sp) (hr : Room k X.A) (ha : PD X n a wa) : PD X n (.UnaryOp .USub a pos) (wNegO cl sp wa) := by
  obtain ⟨f, fd, ps, Fn, hc, hm, hbd⟩ := D.ex
  refine ⟨fun pins s σ H F ρ st Q E I R tk hw => ?_⟩
  refine UnaryOp_ (thn (ha.run pins s σ H F ρ st _ E I R tk hw) fun u1 s1 ⟨v1, o1, st1, H1, F1, ρ1, I1, rv1, p1, R1, r1, h1⟩ => ?_)
  obtain ⟨ks, vs, rfl⟩ := h1.ob
  have q1 : Rep X.K F1 (.ins cl ks vs) v1 := r1
  unfold Rep at q1
  obtain ⟨x, dx, fs, rfl, e1, e2, e3⟩ := q1
  obtain rfl : u1 = Value.ref x := rv1
  obtain ⟨mA, O, _, _, _, _⟩ := ins_get I1.hok (R1.ok.sub _ _ e1)
  obtain ⟨od, J, _⟩ := O.look
  obtain ⟨m, Fr0⟩ := I1.fr
  refine PySem.W.ksp_neg Fr0 I1.ok.mod.kin J hm.at_ hm.fn ?_
  refine thn (run_fnS (us := [.ref x]) (vs := [.ref x]) Fn hr hbd (passAt tk σ) I1 (.cons rfl .nil) (call_sp (ws := [.d (.ins cl ks vs)]) R1 ⟨_, _, rfl, r1, rfl⟩ rfl h1.go fun cls d H' z => z)) fun u s3 ⟨v, H3, I3, r3, w', st', F', ρ', p3, R3, rw3, q3⟩ => ?_
  exact ⟨v, w', st', H3, F', ρ', I3, r3, p1.trans p3 R1.ok.dom, R3, rw3, q3⟩
end
end Dl
namespace Dl
open PySem PySem.Spec PyProof.Rows L2
variable [TheW]
def goodB (K : PySem.W.Frag) : Ty → Bool
  | .ty _ => true
  | .own c => (He.Fa.cls c).ok K && (He.eqO (PySem.W.findIn K (.ref (He.ga K c)) "__class__") (some (some (.builtin "object.__class__"))) && (He.eqO (PySem.W.specialIn K (.builtin "object.__class__") "__get__") (some (some (.builtin "getset_descriptor.__get__"))) &&
    (decide (PySem.W.takesIn K (.builtin "object.__class__") = some true) && decide (PySem.W.mroIn K (He.ga K c) (.type "object") = some true))))
theorem goodB_ok {K : PySem.W.Frag} {t : Ty} (h : goodB K t = true) : TyGood K t := by
  cases t with
  | ty _ => trivial
  | own c =>
    obtain ⟨h1, h⟩ := He.ba h
    obtain ⟨h2, h⟩ := He.ba h
    obtain ⟨h3, h⟩ := He.ba h
    obtain ⟨h4, h5⟩ := He.ba h
    exact ⟨He.cls_ok h1, He.eqO_ok h2, He.eqO_ok h3, of_decide_eq_true h4, of_decide_eq_true h5⟩
def tblB (K : PySem.W.Frag) (tbl : List ((Ty × Ty) × Bool)) : Bool := tbl.all fun e => goodB K e.1.1 && decide (PySem.W.kitOne K (e.1.1.v K) (e.1.2.v K) = some e.2)
theorem look_mem {α β : Type} [BEq α] [LawfulBEq α] {a : α} {b : β} : ∀ {l : List (α × β)}, l.lookup a = some b → (a, b) ∈ l
  | [], h => by cases h
  | (c, d) :: l, h => by
    rw [List.lookup_cons] at h
    cases q : (a == c) with
    | true =>
      rw [q] at h
      cases h
      rw [eq_of_beq q]
      exact List.mem_cons_self
    | false =>
      rw [q] at h
      exact List.mem_cons_of_mem _ (look_mem h)
theorem ansW_ok {K : PySem.W.Frag} {tbl : List ((Ty × Ty) × Bool)} (h : tblB K tbl = true) : AnsOk K (ansW tbl) := by
  have key : ∀ t c b, ansW tbl t c = some b → PySem.W.kitOne K (t.v K) (c.v K) = some b ∧ TyGood K t := fun t c b e => by
    have tb : tbl.lookup (t, c) = some b → PySem.W.kitOne K (t.v K) (c.v K) = some b ∧ TyGood K t := fun e => by
      have := List.all_eq_true.mp h _ (look_mem e)
      obtain ⟨h1, h2⟩ := He.ba this
      exact ⟨of_decide_eq_true h2, goodB_ok h1⟩
    cases t with
    | own a => exact tb e
    | ty a =>
      cases c with
      | own d => exact tb e
      | ty d => exact ⟨(ansB_ok K).one _ _ _ e, trivial⟩
  exact ⟨fun t c b e => (key t c b e).1, fun t c b e => (key t c b e).2⟩
def prP (K : PySem.W.Frag) (c m : Str) : Addr := He.ma K (He.ga K c) m
def prG (K : PySem.W.Frag) (c m : Str) : Addr := match PySem.W.recIn K (prP K c m) "property" with
  | some (.ref g :: _) => g
  | _ => 0
def fnA (K : PySem.W.Frag) (a : Addr) : He.FnW := match K.lookup a with
  | some ⟨_, _, .func fd, _⟩ => some (fd.name, fd.qualname, fd.params, fd.body, fd.scope, fd.globals, fd.closure, fd.builtins)
  | _ => none
structure PrF where
  c : Str
  m : Str
  qual : Str
  st : Stmt
  /-- the __init__ of an exception class: it closes over __class__ -/
  xi : Bool := false
def fnZ (K : PySem.W.Frag) (a : Addr) : He.FnW := match K.lookup a with
  | some ⟨_, _, .func fd, _⟩ => some (fd.name, fd.qualname, fd.params, fd.body, fd.scope, fd.globals, fd.closure.map (fun q => (q.1, 0)), fd.builtins)
  | _ => none
def prV (K : PySem.W.Frag) (d : PrF) : He.FnW := bif d.xi then fnZ K (prP K d.c d.m) else fnA K (prG K d.c d.m)
def PrF.val (d : PrF) : He.FnW := some (d.m, d.qual, defArgs d.st, .stmts (defBody d.st), defScope d.st, mainGlobals, (bif d.xi then [("__class__", 0)] else []), builtinsNs)
def PrF.ok (K : PySem.W.Frag) (d : PrF) : Bool := d.xi || He.eqO (PySem.W.findIn K (.ref (He.ga K d.c)) d.m) (some (some (.ref (prP K d.c d.m)))) && (He.eqO (PySem.W.specialIn K (.ref (prP K d.c d.m)) "__get__") (some (some (.builtin "property.__get__"))) &&
  (decide (PySem.W.takesIn K (.ref (prP K d.c d.m)) = some true) && ((match PySem.W.recIn K (prP K d.c d.m) "property" with
    | some (.ref _ :: _) => true
    | _ => false) && (PySem.W.keepIn K (.ref (prG K d.c d.m)) && (match K.lookup (prG K d.c d.m) with
      | some ⟨_, _, .func fd, _⟩ => PySem.W.codeIn K fd.code d.qual && (He.dflB K fd.defaults [] && He.kwdB K fd.kwdefaults [])
      | _ => false)))))
theorem PrF.told {K : PySem.W.Frag} {d : PrF} (e : prV K d = d.val) (h : d.ok K = true) (hx : d.xi = false) :
    PropOf K (He.ga K d.c) d.m (prP K d.c d.m) (prG K d.c d.m) ∧ ∃ fd, FunD K d.m d.qual (defArgs d.st) (defBody d.st) (defScope d.st) [] [] (prG K d.c d.m) fd := by
  obtain ⟨dc, dm, dq, dst, dxi⟩ := d
  obtain rfl : dxi = false := hx
  obtain ⟨h1, h⟩ := He.ba (show (_ && _) = true from h)
  obtain ⟨h2, h⟩ := He.ba h
  obtain ⟨h3, h⟩ := He.ba h
  obtain ⟨h4, h⟩ := He.ba h
  obtain ⟨h5, h6⟩ := He.ba h
  refine ⟨⟨He.eqO_ok h1, He.eqO_ok h2, of_decide_eq_true h3, ?_⟩, ?_⟩
  · unfold prG
    revert h4
    show _ → ∃ r, PySem.W.recIn K (prP K dc dm) "property" = some (.ref (match PySem.W.recIn K (prP K dc dm) "property" with | some (.ref g :: _) => g | _ => 0) :: r)
    cases PySem.W.recIn K (prP K dc dm) "property" with
    | none => intro z; cases z
    | some l =>
      cases l with
      | nil => intro z; cases z
      | cons v r =>
        cases v with
        | ref g => exact fun _ => ⟨r, rfl⟩
        | _ => intro z; cases z
  · have e : fnA K (prG K dc dm) = (PrF.mk dc dm dq dst false).val := e
    unfold fnA at e
    revert h6 e
    cases q : K.lookup (prG K dc dm) with
    | none => intro h6 e; cases e
    | some o =>
      obtain ⟨oc, od, dt, osl⟩ := o
      cases dt with
      | func fd =>
        intro h6 e
        obtain ⟨n1, n2, n3, n4, n5, n6, n7, n8, n9, n10, n11, n12, n13, n14, n15⟩ := fd
        have e2 : (some (n1, n2, n3, n4, n5, n6, n7, n15) : He.FnW) = some (dm, dq, defArgs dst, .stmts (defBody dst), defScope dst, mainGlobals, [], builtinsNs) := e
        simp only [Option.some.injEq, Prod.mk.injEq] at e2
        obtain ⟨z1, z2, z3, z4, z5, z6, z7, z8⟩ := e2
        subst z1 z2 z3 z4 z5 z6 z7 z8
        obtain ⟨k1, k2⟩ := He.ba (show (PySem.W.codeIn K n13 n2 && (He.dflB K n8 [] && He.kwdB K n9 [])) = true from h6)
        obtain ⟨k3, k4⟩ := He.ba k2
        exact ⟨_, ⟨oc, od, n8, n9, n10, n11, n12, n13, n14, osl, rfl, q, k1, He.dflB_ok k3, He.kwdB_ok k4⟩, h5⟩
      | _ => intro h6 e; cases e
abbrev AlP : Type := He.AlX × List He.FnW
def exP (ps : List PrF) (tf : List He.Defn) (ex : PySem.W.Frag → Bool) (K : PySem.W.Frag) : Bool := ps.all (fun d => d.ok K) && (ex K && lamDefs.all fun p => tf.contains p || !PySem.W.codeHdIn K (He.cT K p).1 (He.cT K p).2)
structure SaysP (fa : List He.Fa) (fn : List He.DefD) (ps : List PrF) (tf : List He.Defn) (ex : PySem.W.Frag → Bool) (w : World) (h : Heap) (K : PySem.W.Frag) : Prop where
  x : He.SaysX fa fn [] tf (exP ps tf ex) w h K
  p : ps.map (prV K) = ps.map PrF.val
def asQ (g : Addr → Option Obj) (n : Nat) : List Addr := cStatics :: He.asD g n
def obsQ (n : Nat) (fa : List He.Fa) (fn : List He.DefD) (ts : List He.Tab) (tf : List He.Defn) (ex : PySem.W.Frag → Bool) (g : Addr → Option Obj) : He.AlX := (He.obsT fa fn ts (He.frT g (asQ g n)), ex (He.frT g (asQ g n)) && He.tabsB g tf (He.frT g (asQ g n)))
omit [TheW] in
theorem saysQ_of {as : List Addr} {fa : List He.Fa} {fn : List He.DefD} {ts : List He.Tab} {tf : List He.Defn} {ex : PySem.W.Frag → Bool} {w : World} {h : Heap} (e : ((He.obsT fa fn ts (He.frT h.get? as), ex (He.frT h.get? as) && He.tabsB h.get? tf (He.frT h.get? as)) : He.AlX) = He.valX fn ts w) : He.SaysX fa fn ts tf ex w h (He.frT h.get? as) := by
  have e1 : He.obsT fa fn ts (He.frT h.get? as) = He.valT fn ts w := congrArg (fun z : He.AlX => z.1) e
  have e2 : (ex (He.frT h.get? as) && He.tabsB h.get? tf (He.frT h.get? as)) = true := congrArg (fun z : He.AlX => z.2) e
  obtain ⟨h1, h2⟩ := He.ba e2
  have key : ∀ p ∈ tf, PySem.W.codeHdIn (He.frT h.get? as) (He.cT (He.frT h.get? as) p).1 (He.cT (He.frT h.get? as) p).2 = true ∧ ∃ o, h.get? (He.cT (He.frT h.get? as) p).2 = some o ∧ He.emptyTab o = true := fun p hp => by
    obtain ⟨h3, h4⟩ := He.ba (List.all_eq_true.mp h2 p hp)
    refine ⟨h3, ?_⟩
    cases q : h.get? (He.cT (He.frT h.get? as) p).2 with
    | none => rw [q] at h4; cases h4
    | some o => rw [q] at h4; exact ⟨o, rfl, h4⟩
  exact ⟨e1, h1, fun p hp => (key p hp).1, fun p hp => by
    obtain ⟨_, o, q, z⟩ := key p hp
    exact He.frT_none q z, fun p hp => by
    obtain ⟨_, o, q, z⟩ := key p hp
    rw [q, He.emptyTab_eq z]⟩
def obsP (n : Nat) (fa : List He.Fa) (fn : List He.DefD) (ps : List PrF) (tf : List He.Defn) (ex : PySem.W.Frag → Bool) (g : Addr → Option Obj) : AlP :=
  (obsQ n fa fn [] tf (exP ps tf ex) g, ps.map (prV (He.frT g (asQ g n))))
def hookP (n : Nat) (fa : List He.Fa) (fn : List He.DefD) (ps : List PrF) (tf : List He.Defn) (ex : PySem.W.Frag → Bool) : PySem.W.Hook where
  α := AlP
  obs := fun s => obsP n fa fn ps tf ex s.heap.get?
  val := fun w => (He.valX fn [] w, ps.map PrF.val)
  says := fun w h => ∃ K : PySem.W.Frag, K.In h ∧ SaysP fa fn ps tf ex w h K
  of := fun _ _ e => ⟨_, He.frT_in, saysQ_of (congrArg (fun z : AlP => z.1) e), congrArg (fun z : AlP => z.2) e⟩
  keeps := fun _ _ _ ⟨K, hK, c⟩ k => ⟨K, PySem.W.Frag.In.keeps hK k, ⟨c.x.t, c.x.more, c.x.hd, c.x.out, fun p hp => k _ _ (c.x.empty p hp)⟩, c.p⟩
omit [TheW] in
theorem obsP_eq {n : Nat} {fa : List He.Fa} {fn : List He.DefD} {ps : List PrF} {tf : List He.Defn} {ex : PySem.W.Frag → Bool} {g : Addr → Option Obj} {s : Shared} (h : ∀ a, g a = s.heap.get? a) : obsP n fa fn ps tf ex g = (hookP n fa fn ps tf ex).obs s := by
  have e : g = s.heap.get? := funext h
  rw [e]
  rfl
theorem SaysP.pr {fa : List He.Fa} {fn : List He.DefD} {ps : List PrF} {tf : List He.Defn} {ex : PySem.W.Frag → Bool} {w : World} {h : Heap} {K : PySem.W.Frag} (c : SaysP fa fn ps tf ex w h K) (i : Nat) {d : PrF} (e : ps[i]? = some d) (hx : d.xi = false) :
    PropOf K (He.ga K d.c) d.m (prP K d.c d.m) (prG K d.c d.m) ∧ ∃ fd, FunD K d.m d.qual (defArgs d.st) (defBody d.st) (defScope d.st) [] [] (prG K d.c d.m) fd := by
  obtain ⟨h1, _⟩ := He.ba (show (ps.all (fun d => d.ok K) && (ex K && lamDefs.all fun p => tf.contains p || !PySem.W.codeHdIn K (He.cT K p).1 (He.cT K p).2)) = true from c.x.more)
  have e2 : (ps.map (prV K))[i]? = (ps.map PrF.val)[i]? := by rw [c.p]
  rw [List.getElem?_map, List.getElem?_map, e] at e2
  exact PrF.told (Option.some.inj e2) (List.all_eq_true.mp h1 d (List.mem_of_getElem? e)) hx
theorem SaysP.xi {fa : List He.Fa} {fn : List He.DefD} {ps : List PrF} {tf : List He.Defn} {ex : PySem.W.Frag → Bool} {w : World} {h : Heap} {K : PySem.W.Frag} (c : SaysP fa fn ps tf ex w h K) (i : Nat) {d : PrF} (e : ps[i]? = some d) : prV K d = d.val := by
  have e2 : (ps.map (prV K))[i]? = (ps.map PrF.val)[i]? := by rw [c.p]
  rw [List.getElem?_map, List.getElem?_map, e] at e2
  exact Option.some.inj e2
theorem SaysP.more {fa : List He.Fa} {fn : List He.DefD} {ps : List PrF} {tf : List He.Defn} {ex : PySem.W.Frag → Bool} {w : World} {h : Heap} {K : PySem.W.Frag} (c : SaysP fa fn ps tf ex w h K) : ex K = true :=
  (He.ba (He.ba (show (ps.all (fun d => d.ok K) && (ex K && lamDefs.all fun p => tf.contains p || !PySem.W.codeHdIn K (He.cT K p).1 (He.cT K p).2)) = true from c.x.more)).2).1
theorem SaysP.tl {fa : List He.Fa} {fn : List He.DefD} {ps : List PrF} {tf : List He.Defn} {ex : PySem.W.Frag → Bool} {w : World} {h : Heap} {K : PySem.W.Frag} (c : SaysP fa fn ps tf ex w h K) : ∀ p ∈ lamDefs, PySem.W.codeHdIn K (He.cT K p).1 (He.cT K p).2 = true → p ∈ tf := fun p hp e => by
  have z := List.all_eq_true.mp (He.ba (He.ba (show (ps.all (fun d => d.ok K) && (ex K && lamDefs.all fun p => tf.contains p || !PySem.W.codeHdIn K (He.cT K p).1 (He.cT K p).2)) = true from c.x.more)).2).2 p hp
  rw [e] at z
  simpa using z
def clsStm (s : Stmt) (j : Nat) : Stmt := match s with
  | .ClassDef _ _ _ b _ _ _ _ _ _ _ => b.getD j (.Pass ⟨0, 0, 0, 0⟩)
  | _ => .Pass ⟨0, 0, 0, 0⟩
structure DfM (K : PySem.W.Frag) (c m qual : Str) (st : Stmt) (dvs : List V) : Prop where
  cl : Cls K (He.ga K c)
  mt : Meth K (He.ga K c) m (He.ma K (He.ga K c) m)
  ex : ∃ fd, FunD K m qual (defArgs st) (defBody st) (defScope st) dvs [] (He.ma K (He.ga K c) m) fd
structure DfI (K : PySem.W.Frag) (c qual : Str) (st : Stmt) (dvs : List V) : Prop where
  mkr : Mk K (He.ga K c) (He.ma K (He.ga K c) "__init__")
  ex : ∃ fd, FunD K "__init__" qual (defArgs st) (defBody st) (defScope st) dvs [] (He.ma K (He.ga K c) "__init__") fd
structure DfP (K : PySem.W.Frag) (c m qual : Str) (st : Stmt) : Prop where
  cl : Cls K (He.ga K c)
  ex : ∃ p g fd, PropOf K (He.ga K c) m p g ∧ FunD K m qual (defArgs st) (defBody st) (defScope st) [] [] g fd
section
variable {P : Program} {w : World} {K : PySem.W.Frag} {mg : Str → Option Value} {base : Heap} {c m qual : Str} {st : Stmt} {N ps : List Str} {k : Nat} {sp : DSp} {wb : DS}
abbrev BodyQ (P : Program) (w : World) (K : PySem.W.Frag) (mg : Str → Option Value) (base : Heap) (qual : Str) (st : Stmt) (N : List Str) (k : Nat) (wb : DS) : Prop :=
  ∀ (f : Addr) (cdv : Value) (A : Around) (outer : List Env) (s : Shared) (H : Hp) (E : XK) (n : En), Room k (A.deeper (envOfC qual (defScope st) s.heap.objs.size f cdv)) → PSSD (cxD P w K mg base N qual (defScope st) f cdv A outer s H E) n (defBody st) wb
abbrev ReadD (sp : DSp) (m : Nat) (N : List Str) (wb : DS) : Prop := ∀ ws μ Q E, ws.length = m → sp ws μ Q E → wb { nx := fun st => Q (.d .non) st.μ, rt := Q, ex := fun x st => E x st.μ } ⟨startD N.length ws, μ⟩
theorem mtD_of (D : DfM K c m qual st []) (S : FnScope N ps (defScope st)) (hb : BodyQ P w K mg base qual st N k wb) (hc : ReadD sp ps.length N wb)
    (bd : ∀ (kV doc pm : Value) (an : Option Addr) (cdv ct : Value) (us : List Value), us.length = ps.length → bindArgs (PySem.W.fnOf m qual (defArgs st) (defBody st) (defScope st) .none kV doc pm an cdv ct) ⟨us, []⟩ = pure (ps.zip us)) : MtD P w K mg base c m (k + 1) ps.length sp := by
  obtain ⟨fd, F⟩ := D.ex
  exact ⟨_, fd, ps, ok_ofD F S rfl (fun cdv A outer s H E n hr => hb _ cdv A outer s H E n hr) hc, D.cl, D.mt, F.bindsN bd⟩
theorem mtK_of (i : Nat) (ks : List Str) (D : DfM K c m qual st []) (S : FnScope N ps (defScope st)) (hb : BodyQ P w K mg base qual st N k wb) (hc : ReadD sp ps.length N wb)
    (bd : ∀ (kV doc pm : Value) (an : Option Addr) (cdv ct : Value) (us ws : List Value), us.length = i → us.length + ws.length = ps.length → bindArgs (PySem.W.fnOf m qual (defArgs st) (defBody st) (defScope st) .none kV doc pm an cdv ct) ⟨us, ks.zip ws⟩ = pure (ps.zip (us ++ ws))) : MtK P w K mg base c m (k + 1) ps.length i ks sp := by
  obtain ⟨fd, F⟩ := D.ex
  refine ⟨_, fd, ps, ok_ofD F S rfl (fun cdv A outer s H E n hr => hb _ cdv A outer s H E n hr) hc, D.cl, D.mt, rfl, fun s us ws h1 h2 => ?_⟩
  obtain ⟨oc, od, dV, kV, doc, pm, an, cdv, ct, osl, rfl, lk, hcd, hD, hK⟩ := F.ex
  rcases hD with ⟨_, rfl⟩ | ⟨e, _⟩
  · exact .of_eq (bd kV doc pm an cdv ct us ws h1 h2)
  · exact absurd rfl e
theorem prD_of (D : DfP K c m qual st) (S : FnScope N ps (defScope st)) (h1 : ps.length = 1) (hb : BodyQ P w K mg base qual st N k wb) (hc : ReadD sp 1 N wb)
    (bd : ∀ (kV doc pm : Value) (an : Option Addr) (cdv ct : Value) (us : List Value), us.length = ps.length → bindArgs (PySem.W.fnOf m qual (defArgs st) (defBody st) (defScope st) .none kV doc pm an cdv ct) ⟨us, []⟩ = pure (ps.zip us)) : PrD P w K mg base c m (k + 1) sp := by
  obtain ⟨p, g, fd, hp, F⟩ := D.ex
  exact ⟨p, g, fd, ps, ok_ofD F S h1.symm (fun cdv A outer s H E n hr => hb _ cdv A outer s H E n hr) hc, D.cl, hp, F.bindsN bd⟩
theorem opD_of {op : Operator} (D : DfM K c m qual st []) (S : FnScope N ps (defScope st)) (h2 : ps.length = 2) (hb : BodyQ P w K mg base qual st N k wb) (hc : ReadD sp 2 N wb) (B : OwnB K c op (He.ma K (He.ga K c) m)) (R : OwnR K c op)
    (bd : ∀ (kV doc pm : Value) (an : Option Addr) (cdv ct : Value) (us : List Value), us.length = ps.length → bindArgs (PySem.W.fnOf m qual (defArgs st) (defBody st) (defScope st) .none kV doc pm an cdv ct) ⟨us, []⟩ = pure (ps.zip us)) : OpD P w K mg base c op (k + 1) sp := by
  obtain ⟨fd, F⟩ := D.ex
  exact ⟨_, fd, ps, ok_ofD F S h2.symm (fun cdv A outer s H E n hr => hb _ cdv A outer s H E n hr) hc, B, R, F.bindsN bd⟩
/-- the maker, every argument written -/
theorem mkD_of (D : DfI K c qual st []) (hm : mg c = some (.ref (He.ga K c))) (S : FnScope N ps (defScope st)) (hb : BodyQ P w K mg base qual st N k wb) (hc : ReadD sp ps.length N wb)
    (bd : ∀ (kV doc pm : Value) (an : Option Addr) (cdv ct : Value) (us : List Value), us.length = ps.length → bindArgs (PySem.W.fnOf "__init__" qual (defArgs st) (defBody st) (defScope st) .none kV doc pm an cdv ct) ⟨us, []⟩ = pure (ps.zip us)) : MkD P w K mg base c (k + 1) ps.length [] sp := by
  obtain ⟨fd, F⟩ := D.ex
  exact ⟨_, fd, ps, [], [], ok_ofD F S rfl (fun cdv A outer s H E n hr => hb _ cdv A outer s H E n hr) hc, D.mkr, hm, F.bindsN bd, .nil, fun _ => RepL.nil⟩
/-- the maker with defaults: i are written, the defaults behind the first j fill up -/
theorem mkD_dfl (i j : Nat) {dvs : List V} (dd : List D) (D : DfI K c qual st dvs) (hd : dvs ≠ []) (hdd : ∀ F, RepL K F dd (dvs.drop j)) (hn : i + (dvs.length - j) = ps.length) (hm : mg c = some (.ref (He.ga K c))) (S : FnScope N ps (defScope st)) (hb : BodyQ P w K mg base qual st N k wb) (hc : ReadD sp ps.length N wb)
    (bd : ∀ (T : Addr) (kV doc pm : Value) (an : Option Addr) (cdv ct : Value) (us its : List Value), us.length = i → its.length = dvs.length →
      ∃ k, bindArgs (PySem.W.fnOf "__init__" qual (defArgs st) (defBody st) (defScope st) (.ref T) kV doc pm an cdv ct) ⟨us, []⟩ = seqItems? (.ref T) >>= k ∧ k (some its.toArray) = pure (ps.zip (us ++ its.drop j))) : MkD P w K mg base c (k + 1) ps.length dd sp := by
  obtain ⟨fd, F⟩ := D.ex
  obtain ⟨ds, rd, hbd⟩ := F.binds1 i j hd hn bd
  exact ⟨_, fd, ps, ds, dvs.drop j, ok_ofD F S rfl (fun cdv A outer s H E n hr => hb _ cdv A outer s H E n hr) hc, D.mkr, hm, hbd, rd, hdd⟩
end
end Dl
namespace Dl
open PySem PySem.Spec PyProof.Rows L2
variable [TheW]
structure MkK (P : Program) (w : World) (K : PySem.W.Frag) (mg : Str → Option Value) (base : Heap) (c : Str) (k m : Nat) (ks : List Str) (gD : List D → List D) (sp : DSp) : Prop where
  ex : ∃ f fd ps g gV, FnOk P w K mg base (L2.CX P w) k f fd ps (SpD K m sp) ∧ Mk K (He.ga K c) f ∧ mg c = some (.ref (He.ga K c)) ∧ KBn K fd ps 1 ks g gV ∧
    ∀ (F : Hp) (x : Addr) (zs : List V) (ys : List D), RepL K F ys zs → ys.length = ks.length → ∃ us, gV [.ref x] zs = .ref x :: us ∧ RepL K F (gD ys) us
def wMakeK (c : Str) (sp : DSp) (m j : Nat) (gD : List D → List D) (wk : DA) : DE := fun st Q E => wk st (fun ws st1 => match datas ws with
  | some xs => xs.length = j ∧ makeP c sp m (gD xs) st1 Q E
  | none => False) E
section
variable {X : Cx} {n : En} {pos p : Pos}
theorem run_makeNS {k : Nat} {f C : Addr} {fd : FuncData} {ps ks : List Str} {sp : Sp} {g : List Value → List Value → List Value} {gV : List V → List V → List V} {E : L2.St → XK} {pins : List (Addr × Obj)} {σ : L2.St} {H : Hp} {s : Shared} {Q : VK} {ws : List Value} {zs : List V} (M : Mk X.K C f)
    (F : FnOk X.prog X.w X.K X.mg X.base (L2.CX X.prog X.w) k f fd ps sp) (hr : Room (k + 1) X.A) (hb : KBn X.K fd ps 1 ks g gV) (hx : PassesAt (L2.CX X.prog X.w) X σ (E σ)) (I : Inv X pins σ H s) (rz : Vals zs ws) (l2 : zs.length = ks.length)
    (h : ∀ x dx, H x = none → H dx = none → dx ≠ x → sp (gV [.ref x] zs) (upd (upd H dx (.own x)) x (.ins C dx [])) (fun v H2 => v = .non ∧ Q (.ref x) H2) (E σ)) : wpAny (model X.prog X.w) X.A (call (.ref C) [] (ks.zip ws)) (EP X pins σ Q) X.xe s := by
  have here := h (s.heap.objs.size + 1) s.heap.objs.size (I.hok.fresh (Nat.le_succ _)) (I.hok.fresh (Nat.le_refl _)) (Nat.ne_of_lt (Nat.lt_succ_self _))
  have J := Inv.made (C := C) I
  have rr := hb.rel (vs := [V.ref (s.heap.objs.size + 1)]) (us := [Value.ref (s.heap.objs.size + 1)]) (.cons rfl .nil) rz
  have e2 : ws.length = ks.length := rz.length.symm.trans l2
  refine wpAny_call (make_map (f := f) I.kIn M.makes M.init (beq_iff_eq.mp M.fn) (codeAny_mono (F.run _ X.stack _ _ ⟨[Value.ref (s.heap.objs.size + 1)], ks.zip ws⟩ (g [Value.ref (s.heap.objs.size + 1)] ws) _ _ (E σ) (hr.make C [] (ks.zip ws)) (J.env0.make C [] (ks.zip ws)) (hb.to _ [Value.ref (s.heap.objs.size + 1)] ws J.kIn rfl e2) rr here) fun r s' hq => ?_))
  cases r with
  | error e => exact hx pins _ _ e s' J hq
  | ok fl =>
    cases fl with
    | ret u =>
      obtain ⟨v, H', I3, rv, ev, q3⟩ := J.after hq
      subst ev
      exact ⟨rv, ⟨V.ref (s.heap.objs.size + 1), H', I3, rfl, q3⟩⟩
    | next => exact False.elim hq
    | brk => exact False.elim hq
    | cont => exact False.elim hq
theorem pd_makeK {c : Str} {k m j : Nat} {ks : List Str} {gD : List D → List D} {kws : List Keyword} {sp : DSp} {wk : DA} (D : MkK X.prog X.w X.K X.mg X.base c k m ks gD sp) (hj : ks.length = j) (hr : Room (k + 1) X.A) (hg : Gl X c) (hkw : PKD X n kws wk)
    (hall : (backToKw pos (keywordEach kws X.env)).all (·.1.isSome) = true := by rfl) (hks : (backToKw pos (keywordEach kws X.env)).filterMap (·.1) = ks := by rfl)
    (hdb : (c == ("__debug__" : Str)) = false := by decide) (hpl : ((backTo pos (starEach [] X.env)).any (·.1) || (backToKw pos (keywordEach kws X.env)).any (·.1.isNone)) = false := by rfl) : PD X n (.Call (.Name c p) [] kws pos) (wMakeK c sp m j gD wk) := by
  obtain ⟨f, fd, ps, g, gV, Fn, M, hmg, hb, hrel⟩ := D.ex
  refine ⟨fun pins s σ H F ρ st Q E I R tk hw => ?_⟩
  refine wpAny_Call_Name_kw (ld_glob I hg hmg ?_ hdb)
  refine PySem.W.callWith_KW0 (h₀ := X.base) I.ok.mod.kin M.kp hall ?_ hpl
  refine thn (hkw.run pos pins s σ H F ρ st _ E I R tk hw) fun ws s1 ⟨zs, xs, st1, H1, F1, ρ1, I1, r, p1, R1, rw, q⟩ => ⟨I1.kIn, ?_⟩
  dsimp only at q
  split at q
  · rename_i ys ex
    have ew := datas_map ex
    subst ew
    have hz := RepWL.ofD rw
    have l2 : zs.length = ks.length := by rw [← hz.len, q.1, hj]
    rw [hks]
    refine thn (run_makeNS (Q := fun v H' => ∃ w' st' F' ρ', Post F1 ρ1 H1 F' ρ' H' ∧ Rl X.K n F' ρ' st' σ H' ∧ RepW X.K F' ρ' w' v ∧ Q w' st') M Fn hr hb (passAt tk σ) I1 r l2 fun x dx hx hdx ne => ?_) fun u s2 ⟨v, H2, I2, r2, w', st', F', ρ', p2, R2, rw2, q2⟩ => ?_
    · obtain ⟨us, e1, e2⟩ := hrel F1 x zs ys hz (q.1.trans hj.symm)
      rw [e1]
      have := make_sp (dd := []) (dvs := []) (c := c) (sp := sp) (m := m) (Q := Q) (E := E) R1 e2 (fun _ => RepL.nil) (by rw [List.append_nil]; exact q.2) (fun cls d H' z => z) x dx hx hdx ne
      rw [List.append_nil] at this
      exact this
    · exact ⟨v, w', st', H2, F', ρ', I2, r2, p1.trans p2 R1.ok.dom, R2, rw2, q2⟩
  · exact q.elim
end
/-- two keywords, the later parameter's first -/
def swapD : List D → List D
  | [a, b] => [b, a]
  | l => l
def swapG {α : Type} (vs _ds zs : List α) : List α := vs ++ zs.reverse
theorem vals_rev {vs : List V} {us : List Value} (h : Vals vs us) : Vals vs.reverse us.reverse := by
  induction h with
  | nil => exact .nil
  | cons r _ ih => rw [List.reverse_cons, List.reverse_cons]; exact ih.append (.cons r .nil)
section
variable {P : Program} {w : World} {K : PySem.W.Frag} {mg : Str → Option Value} {base : Heap} {c qual a b : Str} {st : Stmt} {N : List Str} {k : Nat} {sp : DSp} {wb : DS} {slf : Str}
theorem mkK_swap {dvs : List V} (D : DfI K c qual st dvs) (hd : dvs ≠ []) (hm : mg c = some (.ref (He.ga K c))) (S : FnScope N [slf, a, b] (defScope st)) (hb : BodyQ P w K mg base qual st N k wb) (hc : ReadD sp 3 N wb)
    (bd : ∀ (T : Addr) (kV doc pm : Value) (an : Option Addr) (cdv ct : Value) (x v u : Value) (its : List Value), its.length = dvs.length →
      ∃ k, bindArgs (PySem.W.fnOf "__init__" qual (defArgs st) (defBody st) (defScope st) (.ref T) kV doc pm an cdv ct) ⟨[x], [(b, v), (a, u)]⟩ = seqItems? (.ref T) >>= k ∧ k (some its.toArray) = pure [(slf, x), (a, u), (b, v)]) : MkK P w K mg base c (k + 1) 3 [b, a] swapD sp := by
  obtain ⟨fd, F⟩ := D.ex
  obtain ⟨its, kb⟩ := F.kbindsD (ps := [slf, a, b]) 1 [b, a] (fun {α} vs ds zs => swapG vs ds zs) hd (fun r1 _ r2 => r1.append (vals_rev r2)) fun T kV doc pm an cdv ct us its ws h1 h2 h3 => by
    match us, ws, h1, h3 with
    | [x], [v, u], _, _ => exact bd T kV doc pm an cdv ct x v u its h2
  refine ⟨_, fd, [slf, a, b], _, _, ok_ofD F S rfl (fun cdv A outer s H E n hr => hb _ cdv A outer s H E n hr) hc, D.mkr, hm, kb, fun F x zs ys r hl => ?_⟩
  match ys, hl, r with
  | [y1, y2], _, r =>
    obtain ⟨v, u, rfl, q1, q2⟩ := repL2 r
    exact ⟨[u, v], rfl, RepL.cons q2 (RepL.one q1)⟩
end
def ownBB (K : PySem.W.Frag) (c : Str) (op : Operator) (m : Str) : Bool := He.eqO (PySem.W.findIn K (.ref (He.ga K c)) (PySem.dunder op.info.2)) (some (some (.ref (He.ma K (He.ga K c) m)))) && (PySem.W.isFn K (.ref (He.ma K (He.ga K c) m)) && PySem.W.selfFirst K (He.ga K c))
theorem ownB_ok {K : PySem.W.Frag} {c : Str} {op : Operator} {m : Str} (h : ownBB K c op m = true) : OwnB K c op (He.ma K (He.ga K c) m) := by
  obtain ⟨h1, h⟩ := He.ba h
  obtain ⟨h2, h3⟩ := He.ba h
  exact ⟨He.eqO_ok h1, h2, h3⟩
def ownRB (K : PySem.W.Frag) (c : Str) (op : Operator) : Bool := He.eqO (PySem.W.findIn K (.ref (He.ga K c)) (PySem.dunderR op.info.2)) (some none) && ((PySem.W.findIn K (.type "int") (PySem.dunder op.info.2)).isSome && ((PySem.W.findIn K (.type "int") (PySem.dunderR op.info.2)).isSome && decide (PySem.W.subIn K (.type "int") (.ref (He.ga K c)) = some false)))
theorem ownR_ok {K : PySem.W.Frag} {c : Str} {op : Operator} (h : ownRB K c op = true) : OwnR K c op := by
  obtain ⟨h1, h⟩ := He.ba h
  obtain ⟨h2, h⟩ := He.ba h
  obtain ⟨h3, h4⟩ := He.ba h
  exact ⟨He.eqO_ok h1, Option.isSome_iff_exists.mp h2, Option.isSome_iff_exists.mp h3, of_decide_eq_true h4⟩
section
variable {K : PySem.W.Frag} {mg : Str → Option Value} {h : Heap} {fa : List He.Fa} {fn : List He.DefD}
theorem dfM_of (c : He.SaysD fa fn K) {i j l : Nat} {cl m qual : Str} {st : Stmt} (e1 : fn[i]? = some ⟨(cl, some m), m, qual, defArgs st, defBody st, defScope st, [], []⟩) (e2 : fa[j]? = some (.cls cl)) (e3 : fa[l]? = some (.meth cl m)) : DfM K cl m qual st [] := by
  obtain ⟨fd, F⟩ := c.def_ i e1
  exact ⟨He.cls_ok (c.fact j e2), He.meth_ok (c.fact l e3), fd, F⟩
theorem dfI_of (c : He.SaysD fa fn K) {i j : Nat} {cl qual : Str} {st : Stmt} {dfl : List He.Dv} (e1 : fn[i]? = some ⟨(cl, some "__init__"), "__init__", qual, defArgs st, defBody st, defScope st, dfl, []⟩) (e2 : fa[j]? = some (.mkr cl)) : DfI K cl qual st (dfl.map (He.Dv.v K)) := by
  obtain ⟨fd, F⟩ := c.def_ i e1
  exact ⟨He.mkr_ok (c.fact j e2), fd, F⟩
theorem dfP_of {ps : List PrF} {tf : List He.Defn} {ex : PySem.W.Frag → Bool} {w : World} (c : SaysP fa fn ps tf ex w h K) {i j : Nat} {cl m qual : Str} {st : Stmt} (e1 : ps[i]? = some ⟨cl, m, qual, st, false⟩) (e2 : fa[j]? = some (.cls cl)) : DfP K cl m qual st := by
  obtain ⟨hp, fd, F⟩ := c.pr i e1 rfl
  exact ⟨He.cls_ok (c.x.t.d.fact j e2), _, _, fd, hp, F⟩
end
end Dl
namespace Dl
open PySem PySem.Spec PyProof.Rows L2
variable [TheW]
structure EqD (P : Program) (w : World) (K : PySem.W.Frag) (mg : Str → Option Value) (base : Heap) (c : Str) (k : Nat) (sp : DSp) : Prop where
  ex : ∃ f fd ps, FnOk P w K mg base (L2.CX P w) k f fd ps (SpD K 2 sp) ∧ PySem.W.findIn K (.ref (He.ga K c)) "__eq__" = some (some (.ref f)) ∧ PySem.W.isFn K (.ref f) = true ∧ Binds K fd ps []
  ni : PySem.W.subIn K (.type "int") (.ref (He.ga K c)) = some false
  nt : PySem.W.subIn K (.type "tuple") (.ref (He.ga K c)) = some false
  ns : PySem.W.subIn K (.type "str") (.ref (He.ga K c)) = some false
structure eqoP (c : Str) (sp : DSp) (o x : W) (st : Dst) (Q : DQ) (E : DX) : Prop where
  ob : ∃ ks vs, o = .d (.ins c ks vs)
  ri : (∃ i, x = .d (.int i)) ∨ (∃ ys, x = .d (.tup ys)) ∨ (∃ ks vs, x = .d (.ins c ks vs)) ∨ ∃ t, x = .d (.str t)
  go : wFn sp [o, x] st Q E
def wEqO (c : Str) (sp : DSp) (wa wb : DE) : DE := fun st Q E => wa st (fun o st1 => wb st1 (fun x st2 => eqoP c sp o x st2 Q E) E) E
section
variable {X : Cx} {n : En} {a b : Expr} {pos : Pos}
theorem pd_eqO {cl : Str} {k j : Nat} {sp : DSp} {wa wb : DE} (D : EqD X.prog X.w X.K X.mg X.base cl k sp) (hr : Room k X.A) (hu : Room j X.A) (ha : PD X n a wa) (hb : PD X n b wb) : PD X n (.Compare a [.Eq] [b] pos) (wEqO cl sp wa wb) := by
  obtain ⟨f, fd, ps, Fn, at_, fn, hbd⟩ := D.ex
  refine ⟨fun pins s σ H F ρ st Q E I R tk hw => ?_⟩
  refine wpAny_Compare1 (thn (ha.run pins s σ H F ρ st _ E I R tk hw) fun u1 s1 ⟨v1, o1, st1, H1, F1, ρ1, I1, rv1, p1, R1, r1, h1⟩ => ?_) (nomark _)
  refine thn (hb.run pins s1 σ H1 F1 ρ1 st1 _ E I1 R1 tk h1) fun u2 s2 ⟨v2, x2, st2, H2, F2, ρ2, I2, rv2, p2, R2, r2, h2⟩ => ?_
  obtain ⟨ks, vs, rfl⟩ := h2.ob
  have r1 := r1.post p2
  have q1 : Rep X.K F2 (.ins cl ks vs) v1 := r1
  unfold Rep at q1
  obtain ⟨x, dx, fs, rfl, e1, e2, e3⟩ := q1
  obtain rfl : u1 = Value.ref x := rv1
  obtain ⟨mA, O, _, _, _, _⟩ := ins_get I2.hok (R2.ok.sub _ _ e1)
  obtain ⟨od, J, _⟩ := O.look
  obtain ⟨m, Fr0⟩ := I2.fr
  have call : wpAny (model X.prog X.w) X.A (call (.ref f) [.ref x, u2]) (PySem.W.CmpBack (EPD X n pins σ F ρ H Q)) X.xe s2 := by
    refine thn (run_fnS (us := [.ref x, u2]) (vs := [.ref x, v2]) Fn hr hbd (passAt tk σ) I2 (.cons rfl (.cons rv2 .nil)) (call_sp (ws := [.d (.ins cl ks vs), x2]) R2 ⟨_, _, rfl, r1, _, _, rfl, r2, rfl⟩ rfl h2.go fun cls d H' z => z)) fun u s3 ⟨v, H3, I3, r3, w', st', F', ρ', p3, R3, rw3, q3⟩ => ?_
    exact cmpBack_of r3 ⟨v, w', st', H3, F', ρ', I3, r3, (p1.trans p2 R1.ok.dom).trans p3 R2.ok.dom, R3, rw3, q3⟩
  have nf : ∀ {t : Value}, PySem.W.subIn X.K t (.ref (He.ga X.K cl)) = some false → PySem.W.notFirst X.K (He.ga X.K cl) t = true := fun {t} z => by
    unfold PySem.W.notFirst; rw [z]; simp
  refine PySem.W.cmp_ofEq ?_
  rcases h2.ri with ⟨i, rfl⟩ | ⟨ys, rfl⟩ | ⟨ks2, vs2, rfl⟩ | ⟨t, rfl⟩
  · obtain rfl := (show v2 = .int i from r2)
    obtain ⟨t, rfl⟩ := rv2
    exact PySem.W.cmp_K hu.units0 Fr0 I2.ok.mod.kin J (PySem.W.Looks.of_pure (r := .type "int") rfl) (nf D.ni) at_ fn call
  · have q2 : Rep X.K F2 (.tup ys) v2 := r2
    unfold Rep at q2
    obtain ⟨y, us, rfl, g1, g2⟩ := q2
    obtain rfl : u2 = Value.ref y := rv2
    obtain ⟨its, rv, ⟨oy, hy, hc, _⟩, hz⟩ := I2.tuple (g1.sq R2.ok.sub)
    have ty : PySem.W.Looks (model X.prog X.w) s2.heap (typeOf (.ref y)) (.type "tuple") := hc ▸ (PySem.W.Looks.ld hy).andThen .now
    exact PySem.W.cmp_K hu.units0 Fr0 I2.ok.mod.kin J ty (nf D.nt) at_ fn call
  · have q2 : Rep X.K F2 (.ins cl ks2 vs2) v2 := r2
    unfold Rep at q2
    obtain ⟨y, dy, gs, rfl, g1, g2, g3⟩ := q2
    obtain rfl : u2 = Value.ref y := rv2
    obtain ⟨mB, OB, _, _, _, _⟩ := ins_get I2.hok (R2.ok.sub _ _ g1)
    obtain ⟨od2, J2, _⟩ := OB.look
    exact PySem.W.cmp_K hu.units0 Fr0 I2.ok.mod.kin J J2.type (by unfold PySem.W.notFirst; simp) at_ fn call
  · obtain rfl := (show v2 = .str (mkS t) from r2)
    obtain ⟨tk2, rfl⟩ := rv2
    exact PySem.W.cmp_K hu.units0 Fr0 I2.ok.mod.kin J (PySem.W.Looks.of_pure (r := .type "str") rfl) (nf D.ns) at_ fn call
/-- a test of an own object that has __bool__ -/
structure truP (c : Str) (sp : DSp) (o : W) (st : Dst) (Q : Bool → Dst → Prop) (E : DX) : Prop where
  ob : ∃ ks vs, o = .d (.ins c ks vs)
  go : wFn sp [o] st (fun w st1 => ∃ k, w = .d (.bl k) ∧ Q k st1) E
def wTruO (c : Str) (sp : DSp) (wa : DE) : DT := fun st Q E => wa st (fun o st1 => truP c sp o st1 Q E) E
theorem ptd_truO {cl : Str} {k : Nat} {sp : DSp} {wa : DE} (D : MtD X.prog X.w X.K X.mg X.base cl "__bool__" k 1 sp) (hr : Room k X.A) (ha : PD X n a wa) (he : ∀ whole, isTrue a X.env whole = (do let v ← whole; standAt a.pos; holding [v] (truthy v)) := by intro _; rfl) : PTD X n a (wTruO cl sp wa) := by
  obtain ⟨f, fd, ps, Fn, hc, hm, hbd⟩ := D.ex
  refine ⟨fun pins s σ H F ρ st Q E I R tk hw => ?_⟩
  refine isTrue_plain (thn (ha.run pins s σ H F ρ st _ E I R tk hw) fun u1 s1 ⟨v1, o1, st1, H1, F1, ρ1, I1, rv1, p1, R1, r1, h1⟩ => ?_) (he _)
  obtain ⟨ks, vs, rfl⟩ := h1.ob
  have q1 : Rep X.K F1 (.ins cl ks vs) v1 := r1
  unfold Rep at q1
  obtain ⟨x, dx, fs, rfl, e1, e2, e3⟩ := q1
  obtain rfl : u1 = Value.ref x := rv1
  obtain ⟨mA, O, _, _, _, _⟩ := ins_get I1.hok (R1.ok.sub _ _ e1)
  obtain ⟨od, J, _⟩ := O.look
  obtain ⟨m, Fr0⟩ := I1.fr
  refine PySem.W.truthy_K Fr0 I1.ok.mod.kin J hm.at_ hm.fn ?_
  refine thn (run_fnS (us := [.ref x]) (vs := [.ref x]) Fn hr hbd (passAt tk σ) I1 (.cons rfl .nil) (call_sp (ws := [.d (.ins cl ks vs)]) R1 ⟨_, _, rfl, r1, rfl⟩ rfl h1.go fun cls d H' z => z)) fun u s3 ⟨v, H3, I3, r3, w', st', F', ρ', p3, R3, rw3, k, ew, q3⟩ => ?_
  subst ew
  obtain rfl := (show v = .bl k from rw3)
  obtain rfl := r3
  exact ⟨st', H3, F', ρ', I3, p1.trans p3 R1.ok.dom, R3, q3⟩
end
end Dl
namespace Dl
open PySem PySem.Spec PyProof.Rows L2 PySem.W
variable [TheW]
section
variable {prog : Program} {w : World} {A : Around} {E : Value → Shared → Prop} {s : Shared} {K : Frag} {x C f : Addr} {ox : Obj} {od : Option Obj} {b tb : Value}
def NotBack (Q : Value → Shared → Prop) (v : Value) (s' : Shared) : Prop := match v with
  | .bool k => Q (.bool (!k)) s'
  | _ => False
theorem bound_here {M : Model} {name : Str} {id : String} {args : List Value} {Q : Option Value → Shared → Prop} (X : K.In s.heap) (I : InstAt s.heap x ox C od) (hs : findIn K (.ref C) name = some (some (.builtin id))) (hb : ∀ self, bindSpecial (.builtin id) self = pure (.builtin id, [self]))
    (h : wpAny M A (call (.builtin id) (.ref x :: args)) (fun v => Q (some v)) E s) : wpAny M A (callSpecialIfBound? (.ref x) name args) Q E s := by
  have done : wpAny M A (call (.builtin id) ([.ref x] ++ args) >>= fun v => pure (some v)) Q E s := wpAny_bind (wpAny_mono h (fun v s' q => wpAny_pure q) fun _ _ q => q)
  simp only [callSpecialIfBound?, bindSpecialIfBound?]
  refine wpAny_holding (wpAny_bind (wpAny_bind (wpAny_bind (I.type.here ((looks_findIn X hs).here ?_)))))
  refine wpAny_bind (wpAny_askSetting (wpAny_ite ?_))
  rw [hb]
  split
  · exact wpAny_bind (wpAny_pure (wpAny_pure done))
  · exact wpAny_tryCatch (wpAny_bind (wpAny_pure (wpAny_pure done)))
theorem ne_entry {Q : Fin → Shared → Prop} (hu : A.units < cLine) (X : K.In s.heap) (I : InstAt s.heap x ox C od) (he : findIn K (.ref C) "__eq__" = some (some (.ref f))) (hf : isFn K (.ref f) = true)
    (h : wpAny (model prog w) A (call (.ref f) [.ref x, b]) (NotBack fun v s' => Q (.done (.ret v)) s') E s) : wpAny (model prog w) A (Builtin.«object.__ne__» ⟨[.ref x, b], []⟩) Q E s := by
  unfold Builtin.«object.__ne__»
  repeat (first
    | with_reducible refine wpAny_cRoomFor hu ?_
    | (refine wpAny_bind (m := callSpecialIfBound? (.ref x) (Str.ofString "__eq__") [b]) (ifBound_K X I he hf (wpAny_mono h (fun r s' hr => by
          cases r <;> first | exact False.elim hr | skip
          have hr : Q _ s' := hr
          repeat (first | exact hr | exact wpAny_pure hr | exact wpAny_truthy_bool hr | (refine wpAny_bind (m := truthy (.bool _)) (wpAny_truthy_bool ?_)) | wp_step)) fun _ _ e => e)))
    | wp_step)
theorem ne_own {Q : Value → Shared → Prop} (hu : A.units + 1 < cLine) (X : K.In s.heap) (I : InstAt s.heap x ox C od) (hb : Looks (model prog w) s.heap (typeOf b) tb) (hn : notFirst K C tb = true) (hs : findIn K (.ref C) "__ne__" = some (some (.builtin "object.__ne__")))
    (hob : subIn K (.ref C) (.type "object") = some true) (he : findIn K (.ref C) "__eq__" = some (some (.ref f))) (hf : isFn K (.ref f) = true) (h : wpAny (model prog w) A.in1 (call (.ref f) [.ref x, b]) (NotBack Q) E s) : wpAny (model prog w) A (richCompare .NotEq (.ref x) b) Q E s := by
  have inner : wpAny (model prog w) A (tryCompare (.ref x) "__ne__" b) (fun r s' => ∃ v, r = some v ∧ Q v s') E s := by
    unfold tryCompare
    refine wpAny_bind (bound_here X I hs F.cmp_object.ne.bind (wpAny_call (codeAny_call_builtin F.cmp_object.ne.plain F.cmpEntry_ne (check_slot F.cmpKind_ne F.cmpSplit_ne (I.type.andThen (looks_subIn X hob)) (F.cmpArgs_ne _ _)
      (ne_entry (A := A.in1) hu X I he hf (wpAny_mono h (fun v s' hv => ?_) fun _ _ e => e))))))
    cases v <;> first | exact False.elim hv | skip
    first | exact ⟨_, rfl, hv⟩ | exact wpAny_pure ⟨_, rfl, hv⟩ | exact ⟨_, rfl, wpAny_pure ⟨_, rfl, hv⟩⟩
  unfold richCompare
  simp only [oneThing_ref]
  refine wpAny_holding (wpAny_bind (wpAny_cRoomFor (Nat.lt_of_succ_lt hu) ?_))
  refine wpAny_bind (I.type.here (wpAny_bind (hb.here ?_)))
  have lastly : wpAny (model prog w) A (tryCompare (.ref x) (cmpInfo CmpOp.NotEq).2.fst b) (fun r s' => ∃ v, r = some v ∧ Q v s') E s := inner
  have stop : ∀ {k : Option Value → Sem Value}, (∀ v, k (some v) = pure v) → wpAny (model prog w) A (tryCompare (.ref x) (cmpInfo CmpOp.NotEq).2.fst b >>= k) Q E s := fun {k} hk => by
    refine wpAny_bind (wpAny_mono lastly (fun r s' z => ?_) fun _ _ e => e)
    obtain ⟨v, rfl, hv⟩ := z
    rw [hk]
    exact wpAny_pure hv
  by_cases q : tb = .ref C
  · subst q
    simp only [bne_self_eq_false, Bool.false_and, Bool.and_false, Bool.false_eq_true, if_false]
    refine wpAny_bind (wpAny_pure ?_)
    rw [if_neg (by simp)]
    exact stop fun v => rfl
  · have sub : subIn K tb (.ref C) = some false := by
      rcases Bool.or_eq_true_iff.mp hn with z | z
      · exact absurd (beq_iff_eq.mp z) q
      · exact beq_iff_eq.mp z
    rw [if_pos (by simpa using fun z : Value.ref C = tb => q z.symm)]
    refine wpAny_bind ((looks_subIn X sub).here ?_)
    rw [if_neg (by simp)]
    exact stop fun v => rfl
/-- the callee one level down, no exception let out -/
theorem run_in1 {X : Cx} {k : Nat} {g : Addr} {fd : FuncData} {ps : List Str} {sp : Sp} {pins : List (Addr × Obj)} {σ : L2.St} {H : Hp} {s : Shared} {Q : VK} {us : List Value} {vs : List V} {E : Value → Shared → Prop} (F : FnOk X.prog X.w X.K X.mg X.base (L2.CX X.prog X.w) k g fd ps sp) (hr : Room (k + 1) X.A) (hb : Binds X.K fd ps [])
    (I : Inv X pins σ H s) (r : Vals vs us) (h : sp vs H Q (fun _ _ _ => False)) : wpAny (model X.prog X.w) X.A.in1 (call (.ref g) us) (EP X pins σ Q) E s := by
  have hl : us.length = ps.length := by rw [← r.length]; exact F.len _ _ _ _ h
  have bd := hb s us I.kIn (by rw [List.append_nil]; exact hl)
  rw [List.append_nil] at bd
  refine wpAny_call (codeAny_mono (F.run X.A.in1 X.stack s H ⟨us, []⟩ us vs Q (fun _ _ _ => False) hr.in1 I.env0.in1 bd r h) fun r s' hq => ?_)
  cases r with
  | error e =>
    obtain ⟨_, _, _, _, _, _, _, _, _, _, _, _, z⟩ := hq
    exact z.elim
  | ok fl =>
    cases fl with
    | ret u => exact I.after hq
    | next => exact False.elim hq
    | brk => exact False.elim hq
    | cont => exact False.elim hq
structure NeD (P : Program) (w : World) (K : PySem.W.Frag) (mg : Str → Option Value) (base : Heap) (c : Str) (k : Nat) (sp : DSp) : Prop extends EqD P w K mg base c k sp where
  ne : PySem.W.findIn K (.ref (He.ga K c)) "__ne__" = some (some (.builtin "object.__ne__"))
  ob : PySem.W.subIn K (.ref (He.ga K c)) (.type "object") = some true
structure neoP (c : Str) (sp : DSp) (o x : W) (st : Dst) (Q : DQ) : Prop where
  ob : ∃ ks vs, o = .d (.ins c ks vs)
  ri : (∃ i, x = .d (.int i)) ∨ (∃ ys, x = .d (.tup ys)) ∨ ∃ ks vs, x = .d (.ins c ks vs)
  go : wFn sp [o, x] st (fun w st1 => ∃ k, w = .d (.bl k) ∧ Q (.d (.bl (!k))) st1) (fun _ _ => False)
def wNeO (c : Str) (sp : DSp) (wa wb : DE) : DE := fun st Q E => wa st (fun o st1 => wb st1 (fun x st2 => neoP c sp o x st2 Q) E) E
theorem pd_neO {X : Cx} {n : En} {a b : Expr} {pos : Pos} {cl : Str} {k : Nat} {sp : DSp} {wa wb : DE} (D : NeD X.prog X.w X.K X.mg X.base cl k sp) (hr : Room (k + 1) X.A) (ha : PD X n a wa) (hb : PD X n b wb) : PD X n (.Compare a [.NotEq] [b] pos) (wNeO cl sp wa wb) := by
  obtain ⟨g, fd, ps, Fn, at_, fn, hbd⟩ := D.ex
  refine ⟨fun pins s σ H F ρ st Q E I R tk hw => ?_⟩
  refine wpAny_Compare1 (thn (ha.run pins s σ H F ρ st _ E I R tk hw) fun u1 s1 ⟨v1, o1, st1, H1, F1, ρ1, I1, rv1, p1, R1, r1, h1⟩ => ?_) (nomark _)
  refine thn (hb.run pins s1 σ H1 F1 ρ1 st1 _ E I1 R1 tk h1) fun u2 s2 ⟨v2, x2, st2, H2, F2, ρ2, I2, rv2, p2, R2, r2, h2⟩ => ?_
  obtain ⟨ks, vs, rfl⟩ := h2.ob
  have r1 := r1.post p2
  have q1 : Rep X.K F2 (.ins cl ks vs) v1 := r1
  unfold Rep at q1
  obtain ⟨x, dx, fs, rfl, e1, e2, e3⟩ := q1
  obtain rfl : u1 = Value.ref x := rv1
  obtain ⟨mA, O, _, _, _, _⟩ := ins_get I2.hok (R2.ok.sub _ _ e1)
  obtain ⟨od, J, _⟩ := O.look
  have call : wpAny (model X.prog X.w) X.A.in1 (call (.ref g) [.ref x, u2]) (NotBack (EPD X n pins σ F ρ H Q)) X.xe s2 := by
    refine thn (run_in1 (us := [.ref x, u2]) (vs := [.ref x, v2]) Fn hr hbd I2 (.cons rfl (.cons rv2 .nil)) (call_sp (X := X) (n := n) (ws := [.d (.ins cl ks vs), x2]) (EX := fun _ _ _ => False) R2 ⟨_, _, rfl, r1, _, _, rfl, r2, rfl⟩ rfl h2.go fun cls d H' ⟨_, _, _, _, _, _, z⟩ => z)) fun u s3 ⟨v, H3, I3, r3, w', st', F', ρ', p3, R3, rw3, q, ew, q3⟩ => ?_
    subst ew
    obtain rfl := (show v = .bl q from rw3)
    obtain rfl := r3
    exact ⟨.bl (!q), .d (.bl (!q)), st', H3, F', ρ', I3, rfl, (p1.trans p2 R1.ok.dom).trans p3 R2.ok.dom, R3, rfl, q3⟩
  have nf : ∀ {t : Value}, PySem.W.subIn X.K t (.ref (He.ga X.K cl)) = some false → PySem.W.notFirst X.K (He.ga X.K cl) t = true := fun {t} z => by
    unfold PySem.W.notFirst; rw [z]; simp
  have room : X.A.units + 1 < cLine := by have := hr.un; omega
  refine PySem.W.cmp_ofNotEq ?_
  rcases h2.ri with ⟨i, rfl⟩ | ⟨ys, rfl⟩ | ⟨ks2, vs2, rfl⟩
  · obtain rfl := (show v2 = .int i from r2)
    obtain ⟨t, rfl⟩ := rv2
    exact ne_own room I2.kIn J (PySem.W.Looks.of_pure (r := .type "int") rfl) (nf D.ni) D.ne D.ob at_ fn call
  · have q2 : Rep X.K F2 (.tup ys) v2 := r2
    unfold Rep at q2
    obtain ⟨y, us, rfl, g1, g2⟩ := q2
    obtain rfl : u2 = Value.ref y := rv2
    obtain ⟨its, rv, ⟨oy, hy, hc, _⟩, hz⟩ := I2.tuple (g1.sq R2.ok.sub)
    have ty : PySem.W.Looks (model X.prog X.w) s2.heap (typeOf (.ref y)) (.type "tuple") := hc ▸ (PySem.W.Looks.ld hy).andThen .now
    exact ne_own room I2.kIn J ty (nf D.nt) D.ne D.ob at_ fn call
  · have q2 : Rep X.K F2 (.ins cl ks2 vs2) v2 := r2
    unfold Rep at q2
    obtain ⟨y, dy, gs, rfl, g1, g2, g3⟩ := q2
    obtain rfl : u2 = Value.ref y := rv2
    obtain ⟨mB, OB, _, _, _, _⟩ := ins_get I2.hok (R2.ok.sub _ _ g1)
    obtain ⟨od2, J2, _⟩ := OB.look
    exact ne_own room I2.kIn J J2.type (by unfold PySem.W.notFirst; simp) D.ne D.ob at_ fn call
/-- repr(an own object) by its own def -/
structure reprP (c : Str) (sp : DSp) (o : W) (st : Dst) (Q : DQ) : Prop where
  ob : ∃ ks vs, o = .d (.ins c ks vs)
  go : wFn sp [o] st (fun w st1 => ∃ x, w = .d (.str x) ∧ Q (.d (.str x)) st1) (fun _ _ => False)
def wReprO (c : Str) (sp : DSp) (wa : DE) : DE := fun st Q E => wa st (fun o st1 => reprP c sp o st1 Q) E
theorem pd_reprO {X : Cx} {n : En} {e : Expr} {pos pp : Pos} {cl : Str} {k : Nat} {sp : DSp} {wa : DE} (D : MtD X.prog X.w X.K X.mg X.base cl "__repr__" k 1 sp) (hr : Room (k + 1) X.A) (hg : Gl X "repr") (hm : X.mg "repr" = none) (ha : PD X n e wa) (he : starEach [e] X.env = (false, eval e X.env) :: starEach [] X.env := by rfl) : PD X n (.Call (.Name "repr" pp) [e] [] pos) (wReprO cl sp wa) := by
  obtain ⟨g, fd, ps, Fn, hc, hmt, hbd⟩ := D.ex
  refine ⟨fun pins s σ H F ρ st Q E I R tk hw => ?_⟩
  have hw : wCons wa wNil st (fun ws st1 => ∃ o, ws = [o] ∧ reprP cl sp o st1 Q) E := by
    refine (show wa st (fun o st1 => ∃ o', [o] = [o'] ∧ reprP cl sp o' st1 Q) E from ?_)
    have : (fun o st1 => ∃ o', [o] = [o'] ∧ reprP cl sp o' st1 Q) = fun o st1 => reprP cl sp o st1 Q := by
      funext o st1
      exact propext ⟨fun ⟨o', e, h⟩ => by cases e; exact h, fun h => ⟨o, rfl, h⟩⟩
    rw [this]
    exact hw
  refine wpAny_Call_Name_kw (ld_blt I hg hm (u := .builtin "repr") (by decide +kernel) ?_ (by decide) (by decide))
  refine PyProof.Rows.callWith_builtin1 (thn ((pad_cons ha pad_nil he).run pos pins s σ H F ρ st _ E I R tk hw) fun us s1 ⟨vs, ws, st1, H1, F1, ρ1, I1, rv, p1, R1, rw1, h1⟩ => ?_) he rfl
  obtain ⟨o, rfl, h1⟩ := h1
  obtain ⟨ks, fs0, rfl⟩ := h1.ob
  obtain ⟨v, r, rfl, r1, rfl⟩ := rw1
  have q1 : Rep X.K F1 (.ins cl ks fs0) v := r1
  unfold Rep at q1
  obtain ⟨x, dx, fs, rfl, e1, e2, e3⟩ := q1
  obtain rfl := Vals.ref1 rv
  obtain ⟨mA, O, _, _, _, _⟩ := ins_get I1.hok (R1.ok.sub _ _ e1)
  obtain ⟨od, J, _⟩ := O.look
  obtain ⟨m, Fr0⟩ := I1.fr
  refine PySem.W.repr_K (hr.in1.units0) Fr0 I1.ok.mod.kin J hmt.at_ hmt.fn ?_
  refine thn (run_in1 (us := [.ref x]) (vs := [.ref x]) Fn hr hbd I1 (.cons rfl .nil) (call_sp (X := X) (n := n) (ws := [.d (.ins cl ks fs0)]) (EX := fun _ _ _ => False) R1 ⟨_, _, rfl, r1, rfl⟩ rfl h1.go fun cls d H' ⟨_, _, _, _, _, _, z⟩ => z)) fun u s3 ⟨v, H3, I3, r3, w', st', F', ρ', p3, R3, rw3, y, ew, q3⟩ => ?_
  subst ew
  obtain rfl := (show v = .str (mkS y) from rw3)
  obtain ⟨t, rfl⟩ := r3
  exact ⟨.str (mkS y), .d (.str y), st', H3, F', ρ', I3, ⟨t, rfl⟩, p1.trans p3 R1.ok.dom, R3, rfl, q3⟩
end
end Dl
namespace Dl
open PySem PySem.Spec PyProof.Rows L2
variable [TheW]
section
variable {prog : Program} {w : World} {A : Around} {E : Value → Shared → Prop} {s : Shared}
theorem bool_meets (x : Addr) : MeetsIn prog w (Builtin.«bool.__new__» ⟨[.type "bool", .ref x], []⟩) (fun A R s => wpAny (model prog w) A.in1 (truthy (.ref x)) (fun k s' => R (.ok (.ret (.bool k))) s') (fun e s' => R (.error e) s') s) :=
  .of_wp fun A R s hs => by
    have f1 := F.conv_sub_bool
    repeat (any_goals (first | assumption | (with_reducible refine wpAny_mono hs (fun k s' q => ?_) fun _ _ q => q) | wp_step))
    all_goals first | exact ⟨_, rfl, q⟩ | exact q | exact ⟨_, rfl, by assumption⟩ | skip
    all_goals trace_state
theorem call_bool_own {x : Addr} {Q : Value → Shared → Prop} (h : wpAny (model prog w) A.in1.in1 (truthy (.ref x)) (fun k s' => Q (.bool k) s') E s) : wpAny (model prog w) A (call (.type "bool") [.ref x]) Q E s :=
  callType_newIn F.called_bool F.newNe_bool (F.typeCall_bool_1 _) (F.newCall_bool_1 _) (fun obj => F.args_object_init_2 obj _) F.entry_bool_new (bool_meets x) (wpAny_mono h (fun k s' q => ⟨rfl, q⟩) fun _ _ q => q)
end
/-- the callee two levels down, no exception let out -/
theorem run_in2 {X : Cx} {k : Nat} {g : Addr} {fd : FuncData} {ps : List Str} {sp : Sp} {pins : List (Addr × Obj)} {σ : L2.St} {H : Hp} {s : Shared} {Q : VK} {us : List Value} {vs : List V} {E : Value → Shared → Prop} (F : FnOk X.prog X.w X.K X.mg X.base (L2.CX X.prog X.w) k g fd ps sp) (hr : Room (k + 2) X.A) (hb : Binds X.K fd ps [])
    (I : Inv X pins σ H s) (r : Vals vs us) (h : sp vs H Q (fun _ _ _ => False)) : wpAny (model X.prog X.w) X.A.in1.in1 (call (.ref g) us) (EP X pins σ Q) E s := by
  have hl : us.length = ps.length := by rw [← r.length]; exact F.len _ _ _ _ h
  have bd := hb s us I.kIn (by rw [List.append_nil]; exact hl)
  rw [List.append_nil] at bd
  refine wpAny_call (codeAny_mono (F.run X.A.in1.in1 X.stack s H ⟨us, []⟩ us vs Q (fun _ _ _ => False) hr.in1.in1 I.env0.in1.in1 bd r h) fun r s' hq => ?_)
  cases r with
  | error e =>
    obtain ⟨_, _, _, _, _, _, _, _, _, _, _, _, z⟩ := hq
    exact z.elim
  | ok fl =>
    cases fl with
    | ret u => exact I.after hq
    | next => exact False.elim hq
    | brk => exact False.elim hq
    | cont => exact False.elim hq
structure boolP (c : Str) (sp : DSp) (o : W) (st : Dst) (Q : DQ) : Prop where
  ob : ∃ ks vs, o = .d (.ins c ks vs)
  go : wFn sp [o] st (fun w st1 => ∃ k, w = .d (.bl k) ∧ Q (.d (.bl k)) st1) (fun _ _ => False)
def wBoolO (c : Str) (sp : DSp) (wa : DE) : DE := fun st Q E => wa st (fun o st1 => boolP c sp o st1 Q) E
theorem pd_boolO {X : Cx} {n : En} {e : Expr} {pos pp : Pos} {cl : Str} {k : Nat} {sp : DSp} {wa : DE} (D : MtD X.prog X.w X.K X.mg X.base cl "__bool__" k 1 sp) (hr : Room (k + 2) X.A) (hg : Gl X "bool") (hm : X.mg "bool" = none) (ha : PD X n e wa) (he : starEach [e] X.env = (false, eval e X.env) :: starEach [] X.env := by rfl) : PD X n (.Call (.Name "bool" pp) [e] [] pos) (wBoolO cl sp wa) := by
  obtain ⟨g, fd, ps, Fn, hc, hmt, hbd⟩ := D.ex
  refine ⟨fun pins s σ H F ρ st Q E I R tk hw => ?_⟩
  have hw : wCons wa wNil st (fun ws st1 => ∃ o, ws = [o] ∧ boolP cl sp o st1 Q) E := by
    refine (show wa st (fun o st1 => ∃ o', [o] = [o'] ∧ boolP cl sp o' st1 Q) E from ?_)
    have : (fun o st1 => ∃ o', [o] = [o'] ∧ boolP cl sp o' st1 Q) = fun o st1 => boolP cl sp o st1 Q := by
      funext o st1
      exact propext ⟨fun ⟨o', e, h⟩ => by cases e; exact h, fun h => ⟨o, rfl, h⟩⟩
    rw [this]
    exact hw
  refine wpAny_Call_Name_kw (ld_blt I hg hm (u := .type "bool") (by decide +kernel) ?_ (by decide) (by decide))
  refine PyProof.Rows.callWith_type1 (thn ((pad_cons ha pad_nil he).run pos pins s σ H F ρ st _ E I R tk hw) fun us s1 ⟨vs, ws, st1, H1, F1, ρ1, I1, rv, p1, R1, rw1, h1⟩ => ?_) he rfl
  obtain ⟨o, rfl, h1⟩ := h1
  obtain ⟨ks, fs0, rfl⟩ := h1.ob
  obtain ⟨v, r, rfl, r1, rfl⟩ := rw1
  have q1 : Rep X.K F1 (.ins cl ks fs0) v := r1
  unfold Rep at q1
  obtain ⟨x, dx, fs, rfl, e1, e2, e3⟩ := q1
  obtain rfl := Vals.ref1 rv
  obtain ⟨mA, O, _, _, _, _⟩ := ins_get I1.hok (R1.ok.sub _ _ e1)
  obtain ⟨od, J, _⟩ := O.look
  obtain ⟨m, Fr0⟩ := I1.fr
  refine call_bool_own (PySem.W.truthy_K Fr0 I1.ok.mod.kin J hmt.at_ hmt.fn ?_)
  refine thn (run_in2 (us := [.ref x]) (vs := [.ref x]) Fn hr hbd I1 (.cons rfl .nil) (call_sp (X := X) (n := n) (ws := [.d (.ins cl ks fs0)]) (EX := fun _ _ _ => False) R1 ⟨_, _, rfl, r1, rfl⟩ rfl h1.go fun cls d H' ⟨_, _, _, _, _, _, z⟩ => z)) fun u s3 ⟨v, H3, I3, r3, w', st', F', ρ', p3, R3, rw3, y, ew, q3⟩ => ?_
  subst ew
  obtain rfl := (show v = .bl y from rw3)
  obtain rfl := r3
  exact ⟨.bl y, .d (.bl y), st', H3, F', ρ', I3, rfl, p1.trans p3 R1.ok.dom, R3, rfl, q3⟩
/-- not x, as a value, of an own object that has __bool__ -/
structure notP (c : Str) (sp : DSp) (o : W) (st : Dst) (Q : DQ) (E : DX) : Prop where
  ob : ∃ ks vs, o = .d (.ins c ks vs)
  go : wFn sp [o] st (fun w st1 => ∃ k, w = .d (.bl k) ∧ Q (.d (.bl (!k))) st1) E
def wNotO (c : Str) (sp : DSp) (wa : DE) : DE := fun st Q E => wa st (fun o st1 => notP c sp o st1 Q E) E
theorem pd_notO {X : Cx} {n : En} {a : Expr} {pos : Pos} {cl : Str} {k : Nat} {sp : DSp} {wa : DE} (D : MtD X.prog X.w X.K X.mg X.base cl "__bool__" k 1 sp) (hr : Room k X.A) (ha : PD X n a wa) : PD X n (.UnaryOp .Not a pos) (wNotO cl sp wa) := by
  obtain ⟨f, fd, ps, Fn, hc, hm, hbd⟩ := D.ex
  refine ⟨fun pins s σ H F ρ st Q E I R tk hw => ?_⟩
  refine UnaryOp_ (thn (ha.run pins s σ H F ρ st _ E I R tk hw) fun u1 s1 ⟨v1, o1, st1, H1, F1, ρ1, I1, rv1, p1, R1, r1, h1⟩ => not_of ?_)
  obtain ⟨ks, vs, rfl⟩ := h1.ob
  have q1 : Rep X.K F1 (.ins cl ks vs) v1 := r1
  unfold Rep at q1
  obtain ⟨x, dx, fs, rfl, e1, e2, e3⟩ := q1
  obtain rfl : u1 = Value.ref x := rv1
  obtain ⟨mA, O, _, _, _, _⟩ := ins_get I1.hok (R1.ok.sub _ _ e1)
  obtain ⟨od, J, _⟩ := O.look
  obtain ⟨m, Fr0⟩ := I1.fr
  refine PySem.W.truthy_K Fr0 I1.ok.mod.kin J hm.at_ hm.fn ?_
  refine thn (run_fnS (us := [.ref x]) (vs := [.ref x]) Fn hr hbd (passAt tk σ) I1 (.cons rfl .nil) (call_sp (ws := [.d (.ins cl ks vs)]) R1 ⟨_, _, rfl, r1, rfl⟩ rfl h1.go fun cls d H' z => z)) fun u s3 ⟨v, H3, I3, r3, w', st', F', ρ', p3, R3, rw3, k, ew, q3⟩ => ?_
  subst ew
  obtain rfl := (show v = .bl k from rw3)
  obtain rfl := r3
  exact ⟨.bl (!k), .d (.bl (!k)), st', H3, F', ρ', I3, rfl, p1.trans p3 R1.ok.dom, R3, rfl, q3⟩
def oBool : DCall := fun xs Q => match xs with
  | [.int i] => Q (.bl (i != 0))
  | [.bl b] => Q (.bl b)
  | _ => False
theorem calls_bool {K : PySem.W.Frag} : CallS K (fun xs H Q => (∃ i, xs = [.int i] ∧ Q (.bl (i != 0)) H) ∨ ∃ k, xs = [.bl k] ∧ Q (.bl k) H) oBool := by
  intro F H xs vs Q k s r h c
  unfold oBool at h
  split at h
  · obtain ⟨v, rfl, q⟩ := repL1 r
    obtain rfl := q
    exact .inl ⟨_, rfl, c _ H (.bl _) F (.refl _ _) rfl h⟩
  · obtain ⟨v, rfl, q⟩ := repL1 r
    obtain rfl := q
    exact .inr ⟨_, rfl, c _ H (.bl _) F (.refl _ _) rfl h⟩
  · exact h.elim
theorem pd_boolI {X : Cx} {n : En} {e : Expr} {es : List Expr} {pos pp : Pos} {wa : DA} (hg : Gl X "bool") (hm : X.mg "bool" = none) (ha : PAD X n (e :: es) wa) (he : starEach (e :: es) X.env = (false, eval e X.env) :: starEach es X.env := by rfl) (hpl : (backTo pos (starEach es X.env)).any (·.1) = false := by rfl) :
    PD X n (.Call (.Name "bool" pp) (e :: es) [] pos) (wCall oBool wa) := pd_callTy call_bool1 calls_bool hg hm (by decide +kernel) ha (by decide) (by decide) he hpl
structure NeF (K : PySem.W.Frag) (c : Str) : Prop where
  ni : PySem.W.subIn K (.type "int") (.ref (He.ga K c)) = some false
  nt : PySem.W.subIn K (.type "tuple") (.ref (He.ga K c)) = some false
  ns : PySem.W.subIn K (.type "str") (.ref (He.ga K c)) = some false
  ne : PySem.W.findIn K (.ref (He.ga K c)) "__ne__" = some (some (.builtin "object.__ne__"))
  ob : PySem.W.subIn K (.ref (He.ga K c)) (.type "object") = some true
def neFB (K : PySem.W.Frag) (c : Str) : Bool := decide (PySem.W.subIn K (.type "int") (.ref (He.ga K c)) = some false) && (decide (PySem.W.subIn K (.type "tuple") (.ref (He.ga K c)) = some false) && (decide (PySem.W.subIn K (.type "str") (.ref (He.ga K c)) = some false) && (He.eqO (PySem.W.findIn K (.ref (He.ga K c)) "__ne__") (some (some (.builtin "object.__ne__"))) && decide (PySem.W.subIn K (.ref (He.ga K c)) (.type "object") = some true))))
theorem neF_ok {K : PySem.W.Frag} {c : Str} (h : neFB K c = true) : NeF K c := by
  obtain ⟨h1, h⟩ := He.ba h
  obtain ⟨h2, h⟩ := He.ba h
  obtain ⟨h5, h⟩ := He.ba h
  obtain ⟨h3, h4⟩ := He.ba h
  exact ⟨of_decide_eq_true h1, of_decide_eq_true h2, of_decide_eq_true h5, He.eqO_ok h3, of_decide_eq_true h4⟩
theorem neD_of {P : Program} {w : World} {K : PySem.W.Frag} {mg : Str → Option Value} {base : Heap} {c qual : Str} {st : Stmt} {N ps : List Str} {k : Nat} {sp : DSp} {wb : DS} (D : DfM K c "__eq__" qual st []) (S : FnScope N ps (defScope st)) (h2 : ps.length = 2) (hb : BodyQ P w K mg base qual st N k wb) (hc : ReadD sp 2 N wb) (B : NeF K c)
    (bd : ∀ (kV doc pm : Value) (an : Option Addr) (cdv ct : Value) (us : List Value), us.length = ps.length → bindArgs (PySem.W.fnOf "__eq__" qual (defArgs st) (defBody st) (defScope st) .none kV doc pm an cdv ct) ⟨us, []⟩ = pure (ps.zip us)) : NeD P w K mg base c (k + 1) sp := by
  obtain ⟨fd, F⟩ := D.ex
  exact ⟨⟨⟨_, fd, ps, ok_ofD F S h2.symm (fun cdv A outer s H E n hr => hb _ cdv A outer s H E n hr) hc, D.mt.at_, D.mt.fn, F.bindsN bd⟩, B.ni, B.nt, B.ns⟩, B.ne, B.ob⟩
end Dl
namespace PySem
open PySem.Calls
set_option maxHeartbeats 1000000 in
theorem meets_enumerate_newB1 {v : Value} {o : Obj} {H : Heap → Prop} (B : Begins v o H) :
    Meets (Builtin.«enumerate.__new__» ⟨[.type "enumerate", v], []⟩) (fun _ R s => H s.heap ∧
      R (.ok (.ret (.ref (s.heap.push o).objs.size))) { s with heap := (s.heap.push o).push { cls := .type "enumerate", data := .fields #[.none, .bool false, .ref s.heap.objs.size, rawInt 0, .none, .none] } }) :=
  .of_wp fun prog w A R s h => by
    obtain ⟨hp, g, d, tk, os⟩ := s; obtain ⟨h1, h⟩ := h
    have hsub := sub_enumerate
    have q1 : ∀ {A' : Around} {E : Value → Shared → Prop} {Q : Value → Shared → Prop}, Q (.ref hp.objs.size) ⟨hp.push o, g, d, tk, os⟩ → wpAny (model prog w) A' (pyIter v) Q E ⟨hp, g, d, tk, os⟩ :=
      fun q => B.iter prog w _ _ ⟨hp, g, d, tk, os⟩ _ h1 q
    wp_walk using q1
    refine wpAny_stack_any fun st => wpAny_pure ?_
    split
    · rename_i c _ _ _ _ _
      cases (c == Value.type "enumerate")
      · wp_walk using q1
        exact ⟨_, rfl, h⟩
      · wp_walk using q1
        exact ⟨_, rfl, h⟩
    · wp_walk using q1
      exact ⟨_, rfl, h⟩
theorem enum_begins1 {prog : Program} {w : World} {A : Around} {E : Value → Shared → Prop} {s : Shared} {v : Value} {o : Obj} {H : Heap → Prop} {Q : Value → Shared → Prop} (B : Begins v o H) (h1 : H s.heap)
    (h : ∀ h', IsEnum h' (s.heap.objs.size + 1) s.heap.objs.size 0 .none → h'.get? s.heap.objs.size = some o → h'.objs.size = s.heap.objs.size + 2 →
      (∀ b o, s.heap.get? b = some o → h'.get? b = some o) → Q (.ref (s.heap.objs.size + 1)) { s with heap := h' }) :
    wpAny (model prog w) A (call (.type "enumerate") [v]) Q E s := by
  refine callType_new F.called_enumerate (by decide) (F.typeCall_enumerate_1 _) (F.newCall_enumerate_1 _) (fun obj => F.args_object_init_2 obj _) F.entry_enumerate_new
    (meets_enumerate_newB1 B) ⟨h1, ?_⟩
  have hz : (s.heap.push o).objs.size = s.heap.objs.size + 1 := Heap.size_push ..
  show _ ∧ _
  rw [hz]
  have he : IsEnum ((s.heap.push o).push { cls := .type "enumerate", data := .fields #[.none, .bool false, .ref s.heap.objs.size, rawInt 0, .none, .none] }) (s.heap.objs.size + 1) s.heap.objs.size 0 .none := by
    have := Heap.get?_push_size (s.heap.push o) (o := { cls := .type "enumerate", data := .fields #[.none, .bool false, .ref s.heap.objs.size, rawInt 0, .none, .none] }) rfl
    rw [hz] at this; exact this
  refine ⟨⟨_, he, rfl⟩, h _ he (Heap.get?_push_of_some _ (Heap.get?_push_size _ B.free)) (by rw [Heap.size_push, hz]) fun b o x => Heap.get?_push_of_some _ (Heap.get?_push_of_some _ x)⟩
end PySem
namespace Dl
open PySem PySem.Spec PyProof.Rows L2
variable [TheW]
inductive SrcOk (K : PySem.W.Frag) (F0 : Hp) : V → List D → Prop
  | lst {p : Addr} {vs : List V} {xs : List D} (h : F0 p = some (.lst vs)) (r : RepL K F0 xs vs) : SrcOk K F0 (.ref p) xs
  | tup {p : Addr} {vs : List V} {xs : List D} (h : TupAt K F0 p vs) (r : RepL K F0 xs vs) : SrcOk K F0 (.ref p) xs
  | str (x : List Nat) : SrcOk K F0 (.str (mkS x)) (x.map fun c => .str [c])
theorem srcOk_of {K : PySem.W.Frag} {F0 : Hp} {d : D} {xs : List D} {v : V} (e : items d = some xs) (r : Rep K F0 d v) : SrcOk K F0 v xs := by
  cases d with
  | str x => cases e; obtain rfl := r; exact .str _
  | tup ys =>
    cases e
    unfold Rep at r
    obtain ⟨p, vs, rfl, h, r⟩ := r
    exact .tup h r
  | lst ys =>
    cases e
    unfold Rep at r
    obtain ⟨p, vs, rfl, h, r⟩ := r
    exact .lst h r
  | _ => cases e
theorem getR : ∀ {vs : List V} {us : List Value} {i : Nat} {u : Value}, Vals vs us → us[i]? = some u → ∃ v, vs[i]? = some v ∧ L2.RelV v u
  | _, _, _, _, .nil, e => by simp at e
  | _, _, 0, _, .cons r _, e => by simp at e; subst e; exact ⟨_, rfl, r⟩
  | _, _, i + 1, x, .cons _ t, e => by
    obtain ⟨v, h1, h2⟩ := getR (i := i) t (by simpa using e)
    exact ⟨v, by simpa using h1, h2⟩
structure SrcD (K : PySem.W.Frag) (F0 : Hp) (u : Value) (ds : List D) (o : Obj) (Hf : Heap → Prop) (src : List Addr) (It : Addr → Nat → Heap → Prop) : Prop where
  beg : Begins u o Hf
  hf : ∀ (X : Cx) (pins : List (Addr × Obj)) (σ : L2.St) (H : Hp) (s : Shared), X.K = K → Inv X pins σ H s → SubH F0 H → Hf s.heap ∧ ∀ b ∈ src, b < s.heap.objs.size
  st0 : ∀ i h, h.get? i = some o → It i 0 h
  keep : ∀ i k (h h' : Heap), It i k h → (∀ o, h.get? i = some o → h'.get? i = some o) → It i k h'
  obj : ∀ i k (h : Heap), It i k h → ∃ o, h.get? i = some o ∧ ∀ v, o.data ≠ .cell v
  draw : ∀ (X : Cx) (pins : List (Addr × Obj)) (σ : L2.St) (H : Hp) (s : Shared), X.K = K → Inv X pins σ H s → SubH F0 H → ∀ i, i ∉ src → ∀ A : Around, A.handled = none →
    ∃ P St, Draws X.prog X.w A i (i :: src) ds.length P St ∧ (∀ k h, St k h → It i k h) ∧ (∀ k, It i k s.heap → St k s.heap) ∧ ∀ k x, P k x → ∃ y d, L2.RelV y x ∧ ds[k]? = some d ∧ Rep K F0 d y
theorem src_of {K : PySem.W.Frag} {F0 : Hp} {v : V} {ds : List D} {u : Value} (S : SrcOk K F0 v ds) (rv : L2.RelV v u) : ∃ o Hf src It, SrcD K F0 u ds o Hf src It := by
  cases S with
  | @lst p vs _ h r =>
    cases rv
    refine ⟨{ cls := .type "list_iterator", data := .fields #[.ref p, .int 0 0] }, fun h => ∃ its : Array Value, h.IsList p its, [p], fun i k h => h.IsListIter i p k, ⟨?_, ?_, ?_, ?_, ?_, ?_⟩⟩
    · exact ⟨fun prog w A E s Q ⟨its, hl⟩ q => wpAny_pyIter_list hl q, fun h h' ⟨its, x⟩ hk => ⟨its, x.at fun o e => hk p o e⟩, rfl⟩
    · intro X pins σ H s hK I sub
      subst hK
      obtain ⟨its, rr, pp, _⟩ := I.list (.of (sub _ _ h))
      refine ⟨⟨_, pp.isList⟩, fun b hb => ?_⟩
      obtain rfl : b = p := by simpa using hb
      obtain ⟨o, e, _⟩ := pp.isList
      exact Heap.lt_size e
    · intro i h e
      exact ⟨_, e, rfl, rfl⟩
    · intro i k h h' st hk
      exact st.at hk
    · intro i k h ⟨o, e, _, d⟩
      exact ⟨o, e, fun v z => by rw [d] at z; cases z⟩
    · intro X pins σ H s hK I sub i hi A hh
      subst hK
      obtain ⟨its, rr, pp, _⟩ := I.list (.of (sub _ _ h))
      have e : its.toArray.size = ds.length := by rw [List.size_toArray, ← rr.length, r.len]
      have z := Draws.list (prog := X.prog) (w := X.w) hh i p (fun z => hi (by rw [z]; simp)) its.toArray
      rw [e] at z
      refine ⟨_, _, z, fun k h st => st.1, fun k st => ⟨st, pp.isList⟩, fun k x hx => ?_⟩
      obtain ⟨y, hy, ry⟩ := getR rr (by simpa using hx)
      obtain ⟨d, hd, rd⟩ := r.getV hy
      exact ⟨y, d, ry, hd, rd⟩
  | @tup p vs _ h r =>
    cases rv
    refine ⟨{ cls := .type "tuple_iterator", data := .fields #[.ref p, .int 0 0] }, fun h => ∃ its : Array Value, h.IsTuple p its, [p], fun i k h => h.IsTupleIter i p k, ⟨?_, ?_, ?_, ?_, ?_, ?_⟩⟩
    · exact ⟨fun prog w A E s Q ⟨its, hl⟩ q => wpAny_pyIter_tuple hl q, fun h h' ⟨its, x⟩ hk => ⟨its, x.at fun o e => hk p o e⟩, rfl⟩
    · intro X pins σ H s hK I sub
      subst hK
      obtain ⟨its, rr, pp, _⟩ := I.tuple (h.sq sub)
      have pp : s.heap.IsTuple p its.toArray := pp
      refine ⟨⟨_, pp⟩, fun b hb => ?_⟩
      obtain rfl : b = p := by simpa using hb
      obtain ⟨o, e, _⟩ := pp
      exact Heap.lt_size e
    · intro i h e
      exact ⟨_, e, rfl, rfl⟩
    · intro i k h h' st hk
      exact st.at hk
    · intro i k h ⟨o, e, _, d⟩
      exact ⟨o, e, fun v z => by rw [d] at z; cases z⟩
    · intro X pins σ H s hK I sub i hi A hh
      subst hK
      obtain ⟨its, rr, pp, _⟩ := I.tuple (h.sq sub)
      have pp : s.heap.IsTuple p its.toArray := pp
      have e : its.toArray.size = ds.length := by rw [List.size_toArray, ← rr.length, r.len]
      have z := Draws.tuple (prog := X.prog) (w := X.w) hh i p (fun z => hi (by rw [z]; simp)) its.toArray
      rw [e] at z
      refine ⟨_, _, z, fun k h st => st.1, fun k st => ⟨st, pp⟩, fun k x hx => ?_⟩
      obtain ⟨y, hy, ry⟩ := getR rr (by simpa using hx)
      obtain ⟨d, hd, rd⟩ := r.getV hy
      exact ⟨y, d, ry, hd, rd⟩
  | str x =>
    obtain ⟨t, rfl⟩ := rv
    refine ⟨{ cls := .type (strIterType (mkS x)), data := .fields #[.str (mkS x) t, .int 0 0] }, fun _ => True, [], fun i k h => h.IsStrIter i (strIterType (mkS x)) (mkS x) t k, ⟨begins_text _ _, ?_, ?_, ?_, ?_, ?_⟩⟩
    · intro X pins σ H s hK I sub
      exact ⟨trivial, fun b hb => by cases hb⟩
    · intro i h e
      exact ⟨_, e, rfl, rfl⟩
    · intro i k h h' ⟨o, ho, r⟩ hk
      exact ⟨o, hk o ho, r⟩
    · intro i k h ⟨o, e, c, d⟩
      exact ⟨o, e, fun v z => by rw [d] at z; cases z⟩
    · intro X pins σ H s hK I sub i hi A hh
      have z := Draws.text (prog := X.prog) (w := X.w) hh i (mkS x) t
      have e : (mkS x).cps.size = (x.map fun c => D.str [c]).length := by simp [mkS]
      rw [e] at z
      refine ⟨_, _, z, fun k h st => st, fun k st => st, fun k y hx => ?_⟩
      obtain ⟨c, u, hc, rfl⟩ := hx
      have hc : x[k]? = some c := by simpa [mkS] using hc
      exact ⟨.str ⟨#[c]⟩, .str [c], ⟨u, rfl⟩, by simp [hc], rfl⟩
def ItzG (K : PySem.W.Frag) (F0 : Hp) (xs ys : List D) : It :=
  ⟨fun i H => SubH F0 H ∧ i < min xs.length ys.length, fun i H v H' => ∃ T x y d e, v = .ref T ∧ H T = none ∧ H' = upd H T (.tup [x, y]) ∧ xs[i]? = some d ∧ ys[i]? = some e ∧ Rep K F0 d x ∧ Rep K F0 e y,
    fun i H => SubH F0 H ∧ min xs.length ys.length ≤ i⟩
theorem turn_zipG {P : Program} {w : World} {K : PySem.W.Frag} {F0 : Hp} {u1 u2 : Value} {xs ys : List D} {o1 o2 : Obj} {Hf1 Hf2 : Heap → Prop} {src1 src2 : List Addr} {It1 It2 : Addr → Nat → Heap → Prop} (S1 : SrcD K F0 u1 xs o1 Hf1 src1 It1) (S2 : SrcD K F0 u2 ys o2 Hf2 src2 It2)
    {elts : List Expr} {kk : Nat} {tpos : Pos} {z TI TO i1 i2 : Addr} (S : ZipSep2 z TI TO i1 i2 (i1 :: src1) (i2 :: src2)) (n1 : i1 ∉ src1) (n2 : i2 ∉ src2) :
    Turn P w K (.Tuple elts kk tpos) (ItzG K F0 xs ys) [z, TI, TO, i1, i2] z (fun i h => i ≤ min xs.length ys.length ∧ IsZip h z TI TO .none ∧ IsTupOf2 h TI (.ref i1) (.ref i2) ∧ (∃ x y, IsTupOf2 h TO x y) ∧ It1 i1 i h ∧ It2 i2 i h) where
  mem := by simp
  obj := fun i h st c hc => by
    obtain ⟨_, hz, hTI, ⟨x, y, hTO⟩, h1, h2⟩ := st
    have e' : c = z ∨ c = TI ∨ c = TO ∨ c = i1 ∨ c = i2 := by simpa using hc
    rcases e' with q | q | q | q | q
    · rw [q]; exact ⟨_, hz, fun v q => nomatch q⟩
    · rw [q]; exact ⟨_, hTI, fun v q => nomatch q⟩
    · rw [q]; exact ⟨_, hTO, fun v q => nomatch q⟩
    · rw [q]; exact S1.obj _ _ _ h1
    · rw [q]; exact S2.obj _ _ _ h2
  keep := fun i h h' st k => by
    obtain ⟨hi, hz, hTI, ⟨x, y, hTO⟩, h1, h2⟩ := st
    exact ⟨hi, k z (by simp) _ hz, k TI (by simp) _ hTI, ⟨x, y, k TO (by simp) _ hTO⟩, S1.keep _ _ _ _ h1 fun o q => k i1 (by simp) o q, S2.keep _ _ _ _ h2 fun o q => k i2 (by simp) o q⟩
  item := by
    intro X hP hw hK hc i pins s σ H E I hf st hg
    subst hP hw
    obtain ⟨hi, hz, hTI, ⟨x0, y0, hTO⟩, h1, h2⟩ := st
    obtain ⟨sub, hlt⟩ := hg
    have hh := I.ok.hd hc
    obtain ⟨P1, St1, D1, g1, b1, f1⟩ := S1.draw X pins σ H s hK I sub i1 n1 X.A.in1 hh
    obtain ⟨P2, St2, D2, g2, b2, f2⟩ := S2.draw X pins σ H s hK I sub i2 n2 X.A.in1 hh
    have hzl : z < s.heap.objs.size := Heap.lt_size hz
    refine (GoesN.zip2 S D1 D2).goes i s _ E hlt ⟨hz, hTI, ⟨x0, y0, hTO⟩, b1 _ h1, b2 _ h2⟩ fun v h' tk hY st' hk htk => ?_
    obtain ⟨T, x, y, rfl, hT, hx, hy, o, ho, hoc, hod⟩ := hY
    obtain ⟨vx, dx, rx, ex, px⟩ := f1 _ _ hx
    obtain ⟨vy, dy, ry, ey, py⟩ := f2 _ _ hy
    obtain ⟨hz', hTI', ⟨x1, y1, hTO'⟩, k1, k2⟩ := st'
    have new : ObjOk X.prog X.w (upd H T (.tup [vx, vy])) h' T (.tup [vx, vy]) := ⟨by show 2 ≤ sizeLine; decide, [x, y], .cons rx (.cons ry .nil), ⟨o, ho, hoc, hod⟩⟩
    have I1 : Inv X pins σ (upd H T (.tup [vx, vy])) { s with heap := h', toks := tk } :=
      I.turnedNew (t' := tk) (ch := [z, TO, i1, i2]) hk (fun c hc => hf c (by simp only [List.mem_cons, List.not_mem_nil, or_false] at hc ⊢; rcases hc with q | q | q | q <;> simp [q])) hT new
    refine ⟨.ref T, _, I1, rfl, ⟨T, vx, vy, dx, dy, rfl, I.hok.fresh hT, rfl, ex, ey, px, py⟩, ⟨hlt, hz', hTI', ⟨x1, y1, hTO'⟩, g1 _ _ k1, g2 _ _ k2⟩, fun c hcm => ?_⟩
    have hlt : c < s.heap.objs.size := by
      have e' : c = z ∨ c = TI ∨ c = TO ∨ c = i1 ∨ c = i2 := by simpa using hcm
      rcases e' with q | q | q | q | q
      · rw [q]; exact hzl
      · rw [q]; exact Heap.lt_size hTI
      · rw [q]; exact Heap.lt_size hTO
      · rw [q]; obtain ⟨_, e1, _⟩ := S1.obj _ _ _ h1; exact Heap.lt_size e1
      · rw [q]; obtain ⟨_, e2, _⟩ := S2.obj _ _ _ h2; exact Heap.lt_size e2
    rw [upd_ne (Nat.ne_of_lt (Nat.lt_of_lt_of_le hlt hT))]
    exact (hf c hcm).1
  done := by
    intro X hP hw hK hc i pins s σ H E I hf st hg
    subst hP hw
    obtain ⟨hi, hz, hTI, ⟨x0, y0, hTO⟩, h1, h2⟩ := st
    obtain ⟨sub, hle⟩ := hg
    have hh := I.ok.hd hc
    obtain ⟨P1, St1, D1, g1, b1, f1⟩ := S1.draw X pins σ H s hK I sub i1 n1 X.A.in1 hh
    obtain ⟨P2, St2, D2, g2, b2, f2⟩ := S2.draw X pins σ H s hK I sub i2 n2 X.A.in1 hh
    have e : i = min xs.length ys.length := Nat.le_antisymm hi hle
    rw [e] at h1 h2
    exact (GoesN.zip2 (elts := elts) (x1 := kk) (pos := tpos) S D1 D2).stops s _ E ⟨hz, hTI, ⟨x0, y0, hTO⟩, b1 _ h1, b2 _ h2⟩ fun h' tk hk htk =>
      I.turnedL (t' := tk) (ch := [z, TO, i1, i2]) hk fun c hc => hf c (by simp only [List.mem_cons, List.not_mem_nil, or_false] at hc ⊢; rcases hc with q | q | q | q <;> simp [q])
  self := fun A i s Q E st h => wpAny_pyIter_zip st.2.1 h
theorem itd_zipG {K : PySem.W.Frag} {F0 : Hp} {xs ys : List D} : ItD K F0 (ItzG K F0 xs ys) (zipD xs ys) where
  go := fun i F H s1 s2 h => ⟨s1.trans s2, by simpa [zipD] using h⟩
  yld := fun i F H x H' s1 s2 h ⟨T, vx, vy, d, e, e0, hT, eH, ex, ey, px, py⟩ => by
    subst e0 eH
    obtain ⟨g, r⟩ := rep_pair (K := K) (F := F) (H := H) s2 hT (Rep.sub s1 _ _ px) (Rep.sub s1 _ _ py)
    exact ⟨_, _, zipD_get ex ey, g, r⟩
  stop := fun i F H s1 s2 h => ⟨s1.trans s2, by simpa [zipD] using h⟩
def wZipA (wa : DA) : DI := fun st Q E => wa st (fun ws st1 => match ws with
  | [.d x, .d y] => match items x, items y with
    | some xs, some ys => Q (zipD xs ys) st1
    | _, _ => False
  | _ => False) E
section
variable {X : Cx} {n : En} {a b e o tg : Expr} {es : List Expr} {pos pp : Pos} {wa : DA}
theorem pid_zipA {elts : List Expr} {kk : Nat} {tpos : Pos} (hg : Gl X "zip") (hm : X.mg "zip" = none) (ha : PAD X n [a, b] wa) (hs : starEach [a, b] X.env = (false, eval a X.env) :: starEach [b] X.env := by rfl) (hpl : (backTo pos (starEach [b] X.env)).any (·.1) = false := by rfl) :
    PID X n (.Tuple elts kk tpos) (.Call (.Name "zip" pp) [a, b] [] pos) (wZipA wa) := by
  refine ⟨fun pins s σ H F ρ st Q E I R tk hw => ?_⟩
  refine Call_ (ld_blt I hg hm PyProof.Rows.boot_zip (PyProof.Rows.callWith_type1 (thn (ha.run pos pins s σ H F ρ st _ E I R tk hw) fun us s1 ⟨vs, ws, st1, H1, F1, ρ1, I1, r, p1, R1, rww, q⟩ => ?_) hs hpl))
  dsimp only at q
  split at q
  · rename_i x y
    split at q
    · rename_i xs ys ex ey
      obtain ⟨v1, r0, rfl, q1, v2, r0, rfl, q2, rfl⟩ := rww
      have q1 : Rep X.K F1 x v1 := q1
      have q2 : Rep X.K F1 y v2 := q2
      cases r with
      | cons r1 rr =>
        cases rr with
        | cons r2 rr =>
          cases rr
          obtain ⟨o1, Hf1, src1, It1, S1⟩ := src_of (srcOk_of ex q1) r1
          obtain ⟨o2, Hf2, src2, It2, S2⟩ := src_of (srcOk_of ey q2) r2
          obtain ⟨b1, l1⟩ := S1.hf X pins σ H1 s1 rfl I1 R1.ok.sub
          obtain ⟨b2, l2⟩ := S2.hf X pins σ H1 s1 rfl I1 R1.ok.sub
          refine zip_begins2 S1.beg S2.beg b1 b2 fun h' hz hTI hTO g1 g2 hsz hk => wpAny_pyIter_zip hz ?_
          have I2 : Inv X pins σ H1 { s1 with heap := h' } := I1.kept (t' := s1.toks) hk
          refine ⟨s1.heap.objs.size + 4, [s1.heap.objs.size + 4, s1.heap.objs.size + 2, s1.heap.objs.size + 3, s1.heap.objs.size, s1.heap.objs.size + 1], _, _, H1, rfl, I2,
            turn_zipG S1 S2 (zip_sep2 l1 l2) (fun z => Nat.lt_irrefl _ (l1 _ z)) (fun z => Nat.lt_irrefl _ (Nat.lt_of_le_of_lt (Nat.le_succ _) (l2 _ z))), ⟨Nat.zero_le _, hz, hTI, ⟨_, _, hTO⟩, S1.st0 _ _ g1, S2.st0 _ _ g2⟩, fun c hcm => ?_, _, st1, F1, ρ1, p1, R1, itd_zipG, q⟩
          have e' : c = s1.heap.objs.size + 4 ∨ c = s1.heap.objs.size + 2 ∨ c = s1.heap.objs.size + 3 ∨ c = s1.heap.objs.size ∨ c = s1.heap.objs.size + 1 := by simpa using hcm
          have hle : s1.heap.objs.size ≤ c := by
            rcases e' with z | z | z | z | z
            · rw [z]; exact Nat.le_add_right _ _
            · rw [z]; exact Nat.le_add_right _ _
            · rw [z]; exact Nat.le_add_right _ _
            · rw [z]; exact Nat.le_refl _
            · rw [z]; exact Nat.le_add_right _ _
          exact I1.fpOk hle (I1.hok.fresh hle)
    · exact q.elim
  · exact q.elim
end
def enumD (xs : List D) : List D := xs.zipIdx.map fun p => .tup [.int p.2, p.1]
theorem enumD_get {xs : List D} {i : Nat} {d : D} (h : xs[i]? = some d) : (enumD xs)[i]? = some (.tup [.int i, d]) := by
  unfold enumD
  rw [List.getElem?_map, List.getElem?_zipIdx, h]
  simp
def IteG (K : PySem.W.Frag) (F0 : Hp) (xs : List D) : It :=
  ⟨fun i H => SubH F0 H ∧ i < xs.length, fun i H v H' => ∃ T y d, v = .ref T ∧ H T = none ∧ H' = upd H T (.tup [.int i, y]) ∧ xs[i]? = some d ∧ Rep K F0 d y,
    fun i H => SubH F0 H ∧ xs.length ≤ i⟩
theorem turn_enumG {P : Program} {w : World} {K : PySem.W.Frag} {F0 : Hp} {u1 : Value} {xs : List D} {o1 : Obj} {Hf1 : Heap → Prop} {src1 : List Addr} {It1 : Addr → Nat → Heap → Prop} (S1 : SrcD K F0 u1 xs o1 Hf1 src1 It1)
    {elts : List Expr} {kk : Nat} {tpos : Pos} {e it : Addr} (hei : e ≠ it) (hef : e ∉ src1) (n1 : it ∉ src1) :
    Turn P w K (.Tuple elts kk tpos) (IteG K F0 xs) [e, it] e (fun i h => i ≤ xs.length ∧ (∃ old, IsEnum h e it i old) ∧ It1 it i h) where
  mem := by simp
  obj := fun i h st c hc => by
    obtain ⟨_, ⟨old, he⟩, h1⟩ := st
    have e' : c = e ∨ c = it := by simpa using hc
    rcases e' with q | q
    · rw [q]; exact ⟨_, he, fun v q => nomatch q⟩
    · rw [q]; exact S1.obj _ _ _ h1
  keep := fun i h h' st k => by
    obtain ⟨hi, ⟨old, he⟩, h1⟩ := st
    exact ⟨hi, ⟨old, k e (by simp) _ he⟩, S1.keep _ _ _ _ h1 fun o q => k it (by simp) o q⟩
  item := by
    intro X hP hw hK hc i pins s σ H E I hf st hg
    subst hP hw
    obtain ⟨hi, ⟨old, he⟩, h1⟩ := st
    obtain ⟨sub, hlt⟩ := hg
    have hh := I.ok.hd hc
    obtain ⟨P1, St1, D1, g1, b1, f1⟩ := S1.draw X pins σ H s hK I sub it n1 X.A.in1 hh
    have hzl : e < s.heap.objs.size := Heap.lt_size he
    refine (GoesN.enumFrom 0 D1 e hei (by simp [hei, hef]) (by simp)).goes i s _ E hlt ⟨⟨old, by rw [Int.zero_add]; exact he⟩, b1 _ h1⟩ fun v h' tk hY st' hk htk => ?_
    obtain ⟨T, t, x, rfl, hT, hx, o, ho, hoc, hod⟩ := hY
    obtain ⟨vx, dx, rx, ex, px⟩ := f1 _ _ hx
    obtain ⟨⟨old', he'⟩, k1⟩ := st'
    have new : ObjOk X.prog X.w (upd H T (.tup [.int i, vx])) h' T (.tup [.int i, vx]) := ⟨by show 2 ≤ sizeLine; decide, [.int (0 + (i : Int)) t, x], .cons ⟨t, by rw [Int.zero_add]⟩ (.cons rx .nil), ⟨o, ho, hoc, hod⟩⟩
    have I1 : Inv X pins σ (upd H T (.tup [.int i, vx])) { s with heap := h', toks := tk } := I.turnedNew (t' := tk) (ch := [e, it]) hk hf hT new
    refine ⟨.ref T, _, I1, rfl, ⟨T, vx, dx, rfl, I.hok.fresh hT, rfl, ex, px⟩, ⟨hlt, ⟨old', by rw [Int.zero_add] at he'; exact he'⟩, g1 _ _ k1⟩, fun c hcm => ?_⟩
    have hlt : c < s.heap.objs.size := by
      have e' : c = e ∨ c = it := by simpa using hcm
      rcases e' with q | q
      · rw [q]; exact hzl
      · rw [q]; obtain ⟨_, e1, _⟩ := S1.obj _ _ _ h1; exact Heap.lt_size e1
    rw [upd_ne (Nat.ne_of_lt (Nat.lt_of_lt_of_le hlt hT))]
    exact (hf c hcm).1
  done := by
    intro X hP hw hK hc i pins s σ H E I hf st hg
    subst hP hw
    obtain ⟨hi, ⟨old, he⟩, h1⟩ := st
    obtain ⟨sub, hle⟩ := hg
    have hh := I.ok.hd hc
    obtain ⟨P1, St1, D1, g1, b1, f1⟩ := S1.draw X pins σ H s hK I sub it n1 X.A.in1 hh
    have ei : i = xs.length := Nat.le_antisymm hi hle
    rw [ei] at h1 he
    exact (GoesN.enumFrom (elts := elts) (x1 := kk) (pos := tpos) 0 D1 e hei (by simp [hei, hef]) (by simp)).stops s _ E ⟨⟨old, by rw [Int.zero_add]; exact he⟩, b1 _ h1⟩ fun h' tk hk htk => I.turnedL (t' := tk) (ch := [e, it]) hk hf
  self := fun A i s Q E st h => let ⟨_, ⟨_, he⟩, _⟩ := st; wpAny_pyIter_enum he h
theorem itd_enumG {K : PySem.W.Frag} {F0 : Hp} {xs : List D} : ItD K F0 (IteG K F0 xs) (enumD xs) where
  go := fun i F H s1 s2 h => ⟨s1.trans s2, by simpa [enumD] using h⟩
  yld := fun i F H x H' s1 s2 h ⟨T, vy, d, e0, hT, eH, ex, px⟩ => by
    subst e0 eH
    obtain ⟨g, r⟩ := rep_pair (K := K) (F := F) (H := H) (d := .int i) s2 hT rfl (Rep.sub s1 _ _ px)
    exact ⟨_, _, enumD_get ex, g, r⟩
  stop := fun i F H s1 s2 h => ⟨s1.trans s2, by simpa [enumD] using h⟩
def wEnum (wa : DA) : DI := fun st Q E => wa st (fun ws st1 => match ws with
  | [.d x] => match items x with
    | some xs => Q (enumD xs) st1
    | none => False
  | _ => False) E
section
variable {X : Cx} {n : En} {a b e o tg : Expr} {es : List Expr} {pos pp : Pos} {wa : DA}
theorem pid_enum {elts : List Expr} {kk : Nat} {tpos : Pos} (hg : Gl X "enumerate") (hm : X.mg "enumerate" = none) (ha : PAD X n [a] wa) (hs : starEach [a] X.env = [(false, eval a X.env)] := by rfl) :
    PID X n (.Tuple elts kk tpos) (.Call (.Name "enumerate" pp) [a] [] pos) (wEnum wa) := by
  refine ⟨fun pins s σ H F ρ st Q E I R tk hw => ?_⟩
  refine Call_ (ld_blt I hg hm PyProof.Rows.boot_enumerate (PyProof.Rows.callWith_type1 (thn (ha.run pos pins s σ H F ρ st _ E I R tk hw) fun us s1 ⟨vs, ws, st1, H1, F1, ρ1, I1, r, p1, R1, rww, q⟩ => ?_) hs rfl))
  dsimp only at q
  split at q
  · rename_i x
    split at q
    · rename_i xs ex
      obtain ⟨v1, r0, rfl, q1, rfl⟩ := rww
      have q1 : Rep X.K F1 x v1 := q1
      cases r with
      | cons r1 rr =>
        cases rr
        obtain ⟨o1, Hf1, src1, It1, S1⟩ := src_of (srcOk_of ex q1) r1
        obtain ⟨b1, l1⟩ := S1.hf X pins σ H1 s1 rfl I1 R1.ok.sub
        refine enum_begins1 S1.beg b1 fun h' he g1 hsz hk => wpAny_pyIter_enum he ?_
        have I2 : Inv X pins σ H1 { s1 with heap := h' } := I1.kept (t' := s1.toks) hk
        refine ⟨s1.heap.objs.size + 1, [s1.heap.objs.size + 1, s1.heap.objs.size], _, _, H1, rfl, I2,
          turn_enumG S1 (Nat.succ_ne_self _) (fun z => Nat.lt_irrefl _ (Nat.lt_of_le_of_lt (Nat.le_succ _) (l1 _ z))) (fun z => Nat.lt_irrefl _ (l1 _ z)), ⟨Nat.zero_le _, ⟨_, he⟩, S1.st0 _ _ g1⟩, fun c hcm => ?_, _, st1, F1, ρ1, p1, R1, itd_enumG, q⟩
        have e' : c = s1.heap.objs.size + 1 ∨ c = s1.heap.objs.size := by simpa using hcm
        have hle : s1.heap.objs.size ≤ c := by
          rcases e' with z | z
          · rw [z]; exact Nat.le_add_right _ _
          · rw [z]; exact Nat.le_refl _
        exact I1.fpOk hle (I1.hok.fresh hle)
    · exact q.elim
  · exact q.elim
end
end Dl
namespace Dl
open PySem PySem.Spec PyProof.Rows L2
variable [TheW]
def wBelow (k : Nat) : W → Prop
  | .loc n => n < k
  | _ => True
structure cutP (m : Nat) (Q : W → List O → Prop) (w : W) (μ : List O) : Prop where
  ex : ∃ k, m ≤ k ∧ wBelow k w ∧ Q w (μ.take k)
structure cutX (m : Nat) (E : Ex → List O → Prop) (x : Ex) (μ : List O) : Prop where
  ex : ∃ k, m ≤ k ∧ E x (μ.take k)
theorem cut_d {m : Nat} {Q : W → List O → Prop} {d : D} {μ : List O} (h : Q (.d d) (μ.take m)) : cutP m Q (.d d) μ := ⟨m, Nat.le_refl _, trivial, h⟩
def cutS (c : DSp) : DSp := fun ws μ Q' E' => ∃ Q E, c ws μ Q E ∧ Q' = cutP μ.length Q ∧ E' = cutX μ.length E
abbrev RdC (sp : DSp) (n : Nat) (wb : DS) : Prop := ∀ (ws : List W) (μ : List O) (Q : W → List O → Prop) (E : Ex → List O → Prop), sp ws μ Q E →
  wb { nx := fun st => cutP μ.length Q (.d .non) st.μ, rt := cutP μ.length Q, ex := fun x st => cutX μ.length E x st.μ } ⟨startD n ws, μ⟩
theorem RdC.rd {sp : DSp} {n : Nat} {wb : DS} (h : RdC sp n wb) : ∀ (ws : List W) (μ : List O) (Q : W → List O → Prop) (E : Ex → List O → Prop), cutS sp ws μ Q E → wb { nx := fun st => Q (.d .non) st.μ, rt := Q, ex := fun x st => E x st.μ } ⟨startD n ws, μ⟩ := by
  rintro ws μ Q E ⟨Q', E', hc, rfl, rfl⟩
  exact h ws μ Q' E' hc
section
variable {K : PySem.W.Frag} {F F0 : Hp} {ρ ρ0 : List Addr} {H H0 : Hp} {μ : List O}
theorem take_get {α : Type} {l : List α} {k i : Nat} {a : α} (h : (l.take k)[i]? = some a) : l[i]? = some a := by
  rw [List.getElem?_take] at h
  split at h
  · exact h
  · cases h
theorem StOk.take (s : StOk K F ρ μ H) (k : Nat) : StOk K F (ρ.take k) (μ.take k) H :=
  ⟨s.sub, by rw [List.length_take, List.length_take, s.len], (List.take_sublist k ρ).nodup s.nd, fun a h => s.dom a (List.mem_of_mem_take h), fun i a o e1 e2 => s.obj i a o (take_get e1) (take_get e2), s.tabs, fun a h => s.notab a (List.mem_of_mem_take h)⟩
theorem Post.take (p : Post F0 ρ0 H0 F ρ H) {k : Nat} (h : ρ0.length ≤ k) : Post F0 ρ0 H0 F (ρ.take k) H := by
  refine ⟨p.le, ?_, p.new, p.keepT, fun b hb => p.fresh b (List.mem_of_mem_take hb)⟩
  obtain ⟨t, rfl⟩ := p.pre
  exact ⟨t.take (k - ρ0.length), by rw [List.take_append, List.take_of_length_le h]⟩
theorem RepW.take {w : W} {v : V} {k : Nat} (b : wBelow k w) (h : RepW K F ρ w v) : RepW K F (ρ.take k) w v := by
  cases w with
  | d x => exact h
  | scr xs => exact h
  | loc n =>
    obtain ⟨a, e, q⟩ := h
    exact ⟨a, by rw [List.getElem?_take, if_pos (show n < k from b)]; exact e, q⟩
theorem SpD.cut {m : Nat} {c : DSp} {vs : List V} {Q : VK} {E : XK} (h : SpD K m c vs H Q E) : SpD K m (cutS c) vs H Q E := by
  obtain ⟨F, ρ, μ, ws, QD, ED, ok, rw, hl, hc, hQ, hE⟩ := h
  refine ⟨F, ρ, μ, ws, _, _, ok, rw, hl, ⟨QD, ED, hc, rfl, rfl⟩, fun w μ' v F' ρ' H' q p ok' r => ?_, fun x μ' cls d F' ρ' H' q p ok' r => ?_⟩
  · obtain ⟨k, h1, h2, h3⟩ := q.ex
    exact hQ w _ v F' _ H' h3 (p.take (by rw [ok.len]; exact h1)) (ok'.take k) (RepW.take h2 r)
  · obtain ⟨k, h1, h3⟩ := q.ex
    exact hE x _ cls d F' _ H' h3 (p.take (by rw [ok.len]; exact h1)) (ok'.take k) r
end
theorem fnOk_cut {P : Program} {w : World} {K : PySem.W.Frag} {mg : Str → Option Value} {base : Heap} {CX : CXT} {k m : Nat} {f : Addr} {fd : FuncData} {ps : List Str} {c : DSp} (F : FnOk P w K mg base CX k f fd ps (SpD K m (cutS c))) : FnOk P w K mg base CX k f fd ps (SpD K m c) :=
  ⟨fun vs H Q E h => F.len vs H Q E h.cut, fun A outer s H args us vs Q E hr e b v h => F.run A outer s H args us vs Q E hr e b v h.cut⟩
section
variable {P : Program} {w : World} {K : PySem.W.Frag} {mg : Str → Option Value} {base : Heap} {x c m : Str} {k j i : Nat} {ks : List Str} {sp : DSp} {dd : List D}
theorem FnD.cut (h : FnD P w K mg base x k j (cutS sp)) : FnD P w K mg base x k j sp := let ⟨f, fd, ps, F, r⟩ := h.ex; ⟨f, fd, ps, fnOk_cut F, r⟩
theorem FnK.cut (h : FnK P w K mg base x k j i ks (cutS sp)) : FnK P w K mg base x k j i ks sp := let ⟨f, fd, ps, F, r⟩ := h.ex; ⟨f, fd, ps, fnOk_cut F, r⟩
theorem MtD.cut (h : MtD P w K mg base c m k j (cutS sp)) : MtD P w K mg base c m k j sp := let ⟨f, fd, ps, F, r⟩ := h.ex; ⟨f, fd, ps, fnOk_cut F, r⟩
theorem MtK.cut (h : MtK P w K mg base c m k j i ks (cutS sp)) : MtK P w K mg base c m k j i ks sp := let ⟨f, fd, ps, F, r⟩ := h.ex; ⟨f, fd, ps, fnOk_cut F, r⟩
theorem PrD.cut (h : PrD P w K mg base c m k (cutS sp)) : PrD P w K mg base c m k sp := let ⟨p, f, fd, ps, F, r⟩ := h.ex; ⟨p, f, fd, ps, fnOk_cut F, r⟩
theorem MkD.cut (h : MkD P w K mg base c k j dd (cutS sp)) : MkD P w K mg base c k j dd sp := let ⟨f, fd, ps, ds, dvs, F, r⟩ := h.ex; ⟨f, fd, ps, ds, dvs, fnOk_cut F, r⟩
end
def LmS (K : PySem.W.Frag) (r : V → List V → Hp → VK → Prop) (o : List D → List D → (List D → D → Prop) → Prop) : Prop :=
  ∀ (F H : Hp) (l : Addr) (xs ds : List D) (vs us : List V) (Q : List D → D → Prop) (k : VK), SubH F H → H l = some (.lst vs) → RepL K F xs vs → RepL K F ds us → o xs ds Q →
    (∀ ys zs y d, RepL K F ys zs → Rep K F d y → Q ys d → k y (upd H l (.lst zs))) → r (.ref l) us H k
structure lmQ (op : List D → List D → (List D → D → Prop) → Prop) (j : Nat) (ws : List W) (st : Dst) (Q : DQ) : Prop where
  ex : ∃ ds xs, datas ws = some ds ∧ st.μ[j]? = some (.lst xs) ∧ op xs ds fun ys d => Q (.d d) { st with μ := st.μ.set j (.lst ys) }
structure lmP (op : List D → List D → (List D → D → Prop) → Prop) (j : Nat) (wa : DA) (st : Dst) (Q : DQ) (E : DX) : Prop where
  ob : ∃ xs, st.μ[j]? = some (.lst xs)
  go : wa st (fun ws st2 => lmQ op j ws st2 Q) E
def wLm (o : List D → List D → (List D → D → Prop) → Prop) (we : DE) (wa : DA) : DE := fun st Q E => we st (fun v st1 => match v with
  | .loc j => lmP o j wa st1 Q E
  | _ => False) E
def lAppend : List D → List D → (List D → D → Prop) → Prop := fun xs ds Q => match ds with
  | [d] => xs.length < 16777216 ∧ Q (xs ++ [d]) .non
  | _ => False
def lExtend : List D → List D → (List D → D → Prop) → Prop := fun xs ds Q => match ds with
  | [.lst zs] => xs.length + zs.length ≤ 16777216 ∧ Q (xs ++ zs) .non
  | _ => False
def lPop : List D → List D → (List D → D → Prop) → Prop := fun xs ds Q => match ds with
  | [] => match xs[xs.length - 1]? with
    | some d => Q xs.dropLast d
    | none => False
  | _ => False
def lClear : List D → List D → (List D → D → Prop) → Prop := fun xs ds Q => match ds with
  | [] => Q [] .non
  | _ => False
def lInsert : List D → List D → (List D → D → Prop) → Prop := fun xs ds Q => match ds with
  | [.int i, d] => xs.length < 16777216 ∧ 0 ≤ i ∧ i < 2 ^ 63 ∧ Q (xs.take i.toNat ++ [d] ++ xs.drop i.toNat) .non
  | _ => False
section
variable {K : PySem.W.Frag}
theorem lms_append : LmS K rAppend lAppend := by
  intro F H l xs ds vs us Q k s hl r ra h c
  unfold lAppend at h
  split at h
  · obtain ⟨u, rfl, ru⟩ := repL1 ra
    exact ⟨l, vs, u, rfl, rfl, hl, by rw [← r.len, sizeLine_eq]; exact h.1, c _ _ .non .non (r.app (RepL.one ru)) rfl h.2⟩
  · exact h.elim
theorem lms_extend : LmS K rExtend lExtend := by
  intro F H l xs ds vs us Q k s hl r ra h c
  unfold lExtend at h
  split at h
  · obtain ⟨u, rfl, ru⟩ := repL1 ra
    unfold Rep at ru
    obtain ⟨p, zs, rfl, e, rz⟩ := ru
    exact ⟨l, p, vs, zs, rfl, rfl, hl, s _ _ e, by rw [← r.len, ← rz.len, sizeLine_eq]; exact h.1, c _ _ .non .non (r.app rz) rfl h.2⟩
  · exact h.elim
theorem RepL.dropLast {F : Hp} {ds : List D} {vs : List V} (h : RepL K F ds vs) : RepL K F ds.dropLast vs.dropLast := by
  rw [List.dropLast_eq_take, List.dropLast_eq_take, h.len]
  exact h.take _
theorem lms_pop : LmS K rPop lPop := by
  intro F H l xs ds vs us Q k s hl r ra h c
  unfold lPop at h
  split at h
  · split at h
    · rename_i d e
      obtain ⟨v, e2, rv⟩ := r.get e
      unfold RepL at ra
      exact ⟨l, vs, v, rfl, ra, hl, by rw [← r.len]; exact e2, c _ _ v d r.dropLast rv h⟩
    · exact h.elim
  · exact h.elim
theorem lms_clear : LmS K rClear lClear := by
  intro F H l xs ds vs us Q k s hl r ra h c
  unfold lClear at h
  split at h
  · unfold RepL at ra
    exact ⟨l, vs, rfl, ra, hl, c _ _ .non .non RepL.nil rfl h⟩
  · exact h.elim
abbrev rInsert : V → List V → Hp → VK → Prop := fun x vs H Q => ∃ (l : Addr) (xs : List V) (i : Int) (y : V), x = .ref l ∧ vs = [.int i, y] ∧ H l = some (.lst xs) ∧ xs.length < sizeLine ∧ 0 ≤ i ∧ i < 2 ^ 63 ∧
    Q .non (upd H l (.lst (xs.take i.toNat ++ [y] ++ xs.drop i.toNat)))
theorem lms_insert : LmS K rInsert lInsert := by
  intro F H l xs ds vs us Q k s hl r ra h c
  unfold lInsert at h
  split at h
  · rename_i i d
    obtain ⟨u, v, rfl, ru, rv⟩ := repL2 ra
    obtain rfl := (show u = .int i from ru)
    exact ⟨l, vs, i, v, rfl, rfl, hl, by rw [← r.len, sizeLine_eq]; exact h.1, h.2.1, h.2.2.1, c _ _ .non .non (((r.take _).app (RepL.one rv)).app (r.drop _)) rfl h.2.2.2⟩
  · exact h.elim
end
section
variable {X : Cx} {n : En} {e o a b : Expr} {es : List Expr} {pos pp apos : Pos} {we wa' wb : DE} {wa : DA} {name : Str} {id : String} {r : V → List V → Hp → VK → Prop} {op : List D → List D → (List D → D → Prop) → Prop}
theorem lm_sim (S : LmS X.K r op) {σ : L2.St} {H F : Hp} {ρ : List Addr} {st : Dst} {Q : DQ} {E : DX} (R : Rl X.K n F ρ st σ H) (tk : TkD X n E) (h : wLm op we wa st Q E) :
    tBM X.K "list" r (tE X n we) (tA X n wa) σ H (qE X n σ F ρ H Q) := by
  refine tE.use R tk h fun v w1 st1 H1 F1 ρ1 p1 R1 r1 h1 => ?_
  cases w1 <;> first | exact h1.elim | skip
  rename_i j
  obtain ⟨⟨xs0, em⟩, h1⟩ := h1
  obtain ⟨p, vs0, rfl, er, f0, hp, rl⟩ := loc_lst R1.ok r1 em
  refine ⟨.inl ⟨rfl, _, .of hp⟩, ?_⟩
  refine tA.use R1 tk h1 fun us ws st2 H2 F2 ρ2 p2 R2 r2 h2 => ?_
  obtain ⟨ds, xs, ed, em2, h2⟩ := h2.ex
  have q2 : RepL X.K F2 ds us := by
    rw [datas_map ed] at r2
    exact r2.ofD
  have er2 := p2.get er
  obtain ⟨p', vs, e', er', f2, hp2, rl2⟩ := loc_lst R2.ok (v := .ref p) ⟨p, er2, rfl⟩ em2
  cases e'
  refine S F2 H2 p xs ds vs us _ _ R2.ok.sub hp2 rl2 q2 h2 fun ys zs y d ry rd q => ?_
  have ok : OOk X.K F2 (upd H2 p (.lst zs)) p (.lst ys) := ⟨f2, zs, upd_same, ry⟩
  obtain ⟨p3, R3⟩ := R2.store er2 ok f2
  exact ⟨.d d, _, F2, ρ2, (p1.trans p2 R1.ok.dom).trans p3 R2.ok.dom, R3, rd, q⟩
theorem pd_lm (slot : Slot "list" name id) (hty : typeOf (.builtin id) = pure (.type "method_descriptor")) (hm : MtR X id r) (S : LmS X.K r op) (ho : PD X n o we) (ha : PAD X n (e :: es) wa)
    (hbase : attributeBase o name X.env (eval o X.env) = eval o X.env := by rfl)
    (hfew : ((backTo pos (starEach (e :: es) X.env)).all (fun x => !x.1) && (backToKw pos (keywordEach [] X.env)).all (fun x => x.1.isSome)
      && decide ((e :: es).length + ([] : List Keyword).length + (if ([] : List Keyword).isEmpty then 0 else 1) < 30)) = true := by rfl)
    (hline : (apos.endLine == pos.line) = true := by rfl) (hs : starEach (e :: es) X.env = (false, eval e X.env) :: starEach es X.env := by rfl) (hplain : (backTo pos (starEach es X.env)).any (·.1) = false := by rfl) :
    PD X n (.Call (.Attribute o name apos) (e :: es) [] pos) (wLm op we wa) :=
  pd_of (pe_bm PySem.F.plainAttrs_list slot hty hm ho.pe ha.pa hbase hfew hline hs hplain) fun σ H F ρ st Q E R tk hw => lm_sim S R tk hw
theorem pd_lm0 (slot : Slot "list" name id) (hty : typeOf (.builtin id) = pure (.type "method_descriptor")) (hm : MtR X id r) (S : LmS X.K r op) (ho : PD X n o we)
    (hbase : attributeBase o name X.env (eval o X.env) = eval o X.env := by rfl) (hline : (apos.endLine == pos.line) = true := by rfl) :
    PD X n (.Call (.Attribute o name apos) [] [] pos) (wLm op we wNil) :=
  pd_of (pe_bm0 PySem.F.plainAttrs_list slot hty hm ho.pe hbase hline) fun σ H F ρ st Q E R tk hw => by
    refine tE.use R tk hw fun v w1 st1 H1 F1 ρ1 p1 R1 r1 h1 => ?_
    cases w1 <;> first | exact h1.elim | skip
    rename_i j
    obtain ⟨_, h1⟩ := h1
    have h1 : lmQ op j [] st1 Q := h1
    obtain ⟨ds, xs0, ed, em, h2⟩ := h1.ex
    cases ed
    obtain ⟨p, vs, rfl, er, f0, hp, rl⟩ := loc_lst R1.ok r1 em
    refine ⟨.inl ⟨rfl, _, .of hp⟩, ?_⟩
    refine S F1 H1 p xs0 [] vs [] _ _ R1.ok.sub hp rl RepL.nil h2 fun ys zs y d ry rd q => ?_
    have ok : OOk X.K F1 (upd H1 p (.lst zs)) p (.lst ys) := ⟨f0, zs, upd_same, ry⟩
    obtain ⟨p3, R3⟩ := R1.store er ok f0
    exact ⟨.d d, _, F1, ρ1, p1.trans p3 R1.ok.dom, R3, rd, q⟩
theorem pd_append (ho : PD X n o we) (ha : PAD X n [e] wa) (hbase : attributeBase o "append" X.env (eval o X.env) = eval o X.env := by rfl)
    (hfew : ((backTo pos (starEach [e] X.env)).all (fun x => !x.1) && (backToKw pos (keywordEach [] X.env)).all (fun x => x.1.isSome)
      && decide ([e].length + ([] : List Keyword).length + (if ([] : List Keyword).isEmpty then 0 else 1) < 30)) = true := by rfl)
    (hline : (apos.endLine == pos.line) = true := by rfl) (hs : starEach [e] X.env = (false, eval e X.env) :: starEach [] X.env := by rfl) :
    PD X n (.Call (.Attribute o "append" apos) [e] [] pos) (wLm lAppend we wa) := pd_lm PySem.F.slot_list_append PySem.F.type_list_append mt_append lms_append ho ha hbase hfew hline hs
theorem pd_extend (ho : PD X n o we) (ha : PAD X n [e] wa) (hbase : attributeBase o "extend" X.env (eval o X.env) = eval o X.env := by rfl)
    (hfew : ((backTo pos (starEach [e] X.env)).all (fun x => !x.1) && (backToKw pos (keywordEach [] X.env)).all (fun x => x.1.isSome)
      && decide ([e].length + ([] : List Keyword).length + (if ([] : List Keyword).isEmpty then 0 else 1) < 30)) = true := by rfl)
    (hline : (apos.endLine == pos.line) = true := by rfl) (hs : starEach [e] X.env = (false, eval e X.env) :: starEach [] X.env := by rfl) :
    PD X n (.Call (.Attribute o "extend" apos) [e] [] pos) (wLm lExtend we wa) := pd_lm PySem.F.slot_list_extend PySem.F.type_list_extend mt_extend lms_extend ho ha hbase hfew hline hs
theorem pd_insert {e2 : Expr} (ho : PD X n o we) (ha : PAD X n [e, e2] wa) (hbase : attributeBase o "insert" X.env (eval o X.env) = eval o X.env := by rfl)
    (hfew : ((backTo pos (starEach [e, e2] X.env)).all (fun x => !x.1) && (backToKw pos (keywordEach [] X.env)).all (fun x => x.1.isSome)
      && decide ([e, e2].length + ([] : List Keyword).length + (if ([] : List Keyword).isEmpty then 0 else 1) < 30)) = true := by rfl)
    (hline : (apos.endLine == pos.line) = true := by rfl) (hs : starEach [e, e2] X.env = (false, eval e X.env) :: starEach [e2] X.env := by rfl) (hplain : (backTo pos (starEach [e2] X.env)).any (·.1) = false := by rfl) :
    PD X n (.Call (.Attribute o "insert" apos) [e, e2] [] pos) (wLm lInsert we wa) := pd_lm PySem.F.slot_list_insert PySem.F.type_list_insert mt_insert lms_insert ho ha hbase hfew hline hs hplain
theorem pd_pop (ho : PD X n o we) (hbase : attributeBase o "pop" X.env (eval o X.env) = eval o X.env := by rfl) (hline : (apos.endLine == pos.line) = true := by rfl) :
    PD X n (.Call (.Attribute o "pop" apos) [] [] pos) (wLm lPop we wNil) := pd_lm0 PySem.F.slot_list_pop PySem.F.type_list_pop mt_pop lms_pop ho hbase hline
theorem pd_clear (ho : PD X n o we) (hbase : attributeBase o "clear" X.env (eval o X.env) = eval o X.env := by rfl) (hline : (apos.endLine == pos.line) = true := by rfl) :
    PD X n (.Call (.Attribute o "clear" apos) [] [] pos) (wLm lClear we wNil) := pd_lm0 PySem.F.slot_list_clear PySem.F.type_list_clear mt_clear lms_clear ho hbase hline
structure frzP (i : Nat) (st : Dst) (Q : Dst → Prop) : Prop where
  ex : (∃ x, st.δ[i]? = some (some (.d x)) ∧ Q st) ∨ (∃ j xs, st.δ[i]? = some (some (.loc j)) ∧ st.μ[j]? = some (.lst xs) ∧ Q ⟨st.δ.set i (some (.d (.lst xs))), st.μ.set j .dead⟩) ∨
    ∃ j c ks vs, st.δ[i]? = some (some (.loc j)) ∧ st.μ[j]? = some (.ins c ks vs) ∧ Q ⟨st.δ.set i (some (.d (.ins c ks vs))), st.μ.set j .dead⟩
def wFrzV (i : Nat) (t : DS) : DS := fun D st => frzP i st fun st1 => t D st1
theorem pssd_frzV {rest : List Stmt} {t : DS} (i : Nat) (h : PSSD X n rest t) : PSSD X n rest (wFrzV i t) := by
  refine ⟨fun pins s σ H F ρ st DD I R tk hw => ?_⟩
  have slot : ∀ {j : Nat} {p : Addr} {u : HO} {d : Dl.D}, st.δ[i]? = some (some (.loc j)) → ρ[j]? = some p → F p = none → H p = some u → Rep X.K (upd F p u) d (.ref p) →
      Post F ρ H (upd F p u) ρ H ∧ Rl X.K n (upd F p u) ρ ⟨st.δ.set i (some (.d d)), st.μ.set j .dead⟩ σ H := fun {j p u d} e1 e f hp rd => by
    obtain ⟨P, R2⟩ := R.frz e f hp
    refine ⟨P, ⟨R2.ok, R2.po, by rw [List.length_set]; exact R2.len, fun i' w' e' => ?_⟩⟩
    by_cases z : i = i'
    · subst z
      have hi := (List.getElem?_eq_some_iff.mp e1).1
      have e' : (st.δ.set i (some (W.d d)))[i]? = some (some w') := e'
      rw [List.getElem?_set_self hi] at e'
      cases e'
      obtain ⟨v, hv, rv⟩ := R.slots i _ e1
      obtain ⟨a, ea, rfl⟩ := rv
      rw [e] at ea; cases ea
      exact ⟨_, hv, rd⟩
    · have e' : (st.δ.set i (some (W.d d)))[i']? = some (some w') := e'
      rw [List.getElem?_set_ne z] at e'
      exact R2.slots i' w' e'
  rcases hw.ex with ⟨x, e, q⟩ | ⟨j, xs, e1, e2, q⟩ | ⟨j, c, ks, vs, e1, e2, q⟩
  · exact h.run pins s σ H F ρ st DD I R tk q
  · obtain ⟨v, hv, rv⟩ := R.slots i _ e1
    obtain ⟨p, vs, rfl, er, f0, hp, rl⟩ := loc_lst R.ok rv e2
    obtain ⟨P, R2⟩ := slot (d := .lst xs) e1 er f0 hp (by
      unfold Rep
      exact ⟨p, vs, rfl, upd_same, RepL.sub (fun b o e => by rw [upd_ne (ne_of_none e f0)]; exact e) _ _ rl⟩)
    exact thn (h.run pins s σ H _ ρ _ DD I R2 tk q) fun f s1 z => z.after P R.ok.dom
  · obtain ⟨v, hv, rv⟩ := R.slots i _ e1
    obtain ⟨p, dx, fs, rfl, er, f0, hp, k1, rl⟩ := loc_ins R.ok rv e2
    obtain ⟨P, R2⟩ := slot (d := .ins c ks vs) e1 er f0 hp (by
      unfold Rep
      exact ⟨p, dx, fs, rfl, upd_same, k1, RepL.sub (fun b o e => by rw [upd_ne (ne_of_none e f0)]; exact e) _ _ rl⟩)
    exact thn (h.run pins s σ H _ ρ _ DD I R2 tk q) fun f s1 z => z.after P R.ok.dom
def oIntS : DCall := fun xs Q => match xs with
  | [.int i] => Q (.int i)
  | [.bl b] => Q (.int (if b then 1 else 0))
  | [.str x] => ∃ i, PySem.intText? (mkS x) = some i ∧ x.length ≤ 640 ∧ Q (.int i)
  | _ => False
theorem calls_intS {K : PySem.W.Frag} : CallS K (fun xs H Q => ((∃ i, xs = [.int i] ∧ Q (.int i) H) ∨ ∃ k, xs = [.bl k] ∧ Q (.int (if k then 1 else 0)) H) ∨ ∃ a n, xs = [.str a] ∧ PySem.intText? a = some n ∧ a.length ≤ 640 ∧ Q (.int n) H) oIntS := by
  intro F H xs vs Q k s r h c
  unfold oIntS at h
  split at h
  · obtain ⟨v, rfl, rv⟩ := repL1 r
    obtain rfl := rv
    exact .inl (.inl ⟨_, rfl, c _ H (.int _) F (.refl _ _) rfl h⟩)
  · obtain ⟨v, rfl, rv⟩ := repL1 r
    obtain rfl := rv
    exact .inl (.inr ⟨_, rfl, c _ H (.int _) F (.refl _ _) rfl h⟩)
  · obtain ⟨v, rfl, rv⟩ := repL1 r
    obtain rfl := rv
    obtain ⟨i, h1, h2, h3⟩ := h
    exact .inr ⟨_, i, rfl, h1, by rw [mkS_len]; exact h2, c _ H (.int _) F (.refl _ _) rfl h3⟩
  · exact h.elim
theorem pd_intS (hg : Gl X "int") (hm : X.mg "int" = none) (ha : PAD X n (e :: es) wa) (he : starEach (e :: es) X.env = (false, eval e X.env) :: starEach es X.env := by rfl) (hpl : (backTo pos (starEach es X.env)).any (·.1) = false := by rfl) :
    PD X n (.Call (.Name "int" pp) (e :: es) [] pos) (wCall oIntS wa) := pd_callTy (callR_or call_int1 call_int_str) calls_intS hg hm (by decide +kernel) ha (by decide) (by decide) he hpl
end
end Dl
namespace Dl
open PySem PySem.Spec PyProof.Rows L2
variable [TheW]
theorem flat_rep (l : List Nat) : ∀ k : Nat, (List.replicate k l.toArray).foldl (· ++ ·) #[] = (List.replicate k l).flatten.toArray := by
  have go : ∀ (k : Nat) (acc : List Nat), (List.replicate k l.toArray).foldl (· ++ ·) acc.toArray = (acc ++ (List.replicate k l).flatten).toArray := fun k => by
    induction k with
    | zero => intro acc; simp
    | succ k ih =>
      intro acc
      rw [List.replicate_succ, List.foldl_cons, List.replicate_succ, List.flatten_cons]
      have e : acc.toArray ++ l.toArray = (acc ++ l).toArray := by simp
      rw [e, ih, List.append_assoc]
  intro k
  have := go k []
  simpa using this
theorem len_rep (a : List Nat) : ∀ k : Nat, (List.replicate k a).flatten.length = k * a.length
  | 0 => by simp
  | k + 1 => by rw [List.replicate_succ, List.flatten_cons, List.length_append, len_rep a k, Nat.succ_mul, Nat.add_comm]
theorem op_mulS {X : Cx} : OpR X (binaryOp .Mult) (fun x y H Q => ∃ (a : List Nat) (k : Int), x = .str (mkS a) ∧ y = .int k ∧ 0 ≤ k ∧ k < 2 ^ 62 ∧ a.length * k.toNat ≤ 16777216 ∧ Q (.str (mkS (List.replicate k.toNat a).flatten)) H) := by
  intro pins s σ H x y v u Q I rx ry h
  obtain ⟨a, k, rfl, rfl, h0, h1, h2, q⟩ := h
  obtain ⟨t, rfl⟩ := rx
  obtain ⟨t', rfl⟩ := ry
  have ha : (mkS a).length = a.length := mkS_len a
  refine PySem.P.mul_str ?_ (fun g1 g2 => ?_) (fun g1 g2 => ?_) ?_
  · rw [decide_eq_false (by omega), decide_eq_false (by omega)]; rfl
  · rw [ha]
    have : a.length ≠ 0 := fun z => by rw [ha, z] at g2; simp at g2
    intro z
    have g3 : (a.length : Int) * k ≤ 16777216 := by
      have : ((a.length * k.toNat : Nat) : Int) = (a.length : Int) * k := by rw [Int.natCast_mul, Int.toNat_of_nonneg h0]
      omega
    have : (a.length : Int) ≤ (2 ^ 63 - 1) / k := (Int.le_ediv_iff_mul_le (by omega)).mpr (by omega)
    omega
  · rw [ha]
    have : ¬ a.length * k.toNat > sizeLine := by rw [sizeLine_eq]; omega
    unfold Builtin.Str.tooLong
    exact decide_eq_false this
  · by_cases hk : k < 1
    · rw [if_pos hk]
      have e : k = 0 := by omega
      subst e
      refine ⟨by decide, ⟨.str (mkS []), H, I.tok _, ⟨_, rfl⟩, ?_⟩⟩
      simpa using q
    · rw [if_neg hk]
      by_cases hc : (k == 1 || (mkS a).length == 0) = true
      · rw [if_pos hc]
        have e : (List.replicate k.toNat a).flatten = a := by
          rcases Bool.or_eq_true_iff.mp hc with z | z
          · have : k = 1 := by simpa using z
            subst this; simp
          · have : a = [] := by
              rw [ha] at z
              exact List.length_eq_zero_iff.mp (by simpa using z)
            subst this; simp
        rw [e] at q
        exact ⟨.str (mkS a), H, I, ⟨t, rfl⟩, q⟩
      · rw [if_neg hc]
        have e : (⟨(List.replicate k.toNat (mkS a).cps).foldl (· ++ ·) #[]⟩ : Str) = mkS (List.replicate k.toNat a).flatten := by
          show (⟨(List.replicate k.toNat a.toArray).foldl (· ++ ·) #[]⟩ : Str) = _
          rw [flat_rep]
        rw [e]
        refine ⟨?_, ⟨.str _, H, I.tok _, ⟨_, rfl⟩, q⟩⟩
        rw [mkS_len, sizeLine_eq]
        rw [len_rep]
        rw [Nat.mul_comm]; exact h2
def oMulA : DOp := fun x y Q => match x, y with
  | .int i, .int j => (CMul i j ∨ CMulW i j) ∧ Q (.int (i * j))
  | .str a, .int k => 0 ≤ k ∧ k < 2 ^ 62 ∧ a.length * k.toNat ≤ 16777216 ∧ Q (.str (List.replicate k.toNat a).flatten)
  | .lst a, .int k => 0 ≤ k ∧ k < 2 ^ 62 ∧ a.length * k.toNat ≤ 16777216 ∧ Q (.lst (List.replicate k.toNat a).flatten)
  | _, _ => False
theorem RepL.rep {K : PySem.W.Frag} {F : Hp} {ds : List D} {vs : List V} (h : RepL K F ds vs) : ∀ k : Nat, RepL K F (List.replicate k ds).flatten (List.replicate k vs).flatten
  | 0 => by simp; exact RepL.nil
  | k + 1 => by rw [List.replicate_succ, List.replicate_succ, List.flatten_cons, List.flatten_cons]; exact h.app (RepL.rep h k)
theorem ops_mulS {K : PySem.W.Frag} : OpS K (fun x y H Q => ∃ (a : List Nat) (k : Int), x = .str (mkS a) ∧ y = .int k ∧ 0 ≤ k ∧ k < 2 ^ 62 ∧ a.length * k.toNat ≤ 16777216 ∧ Q (.str (mkS (List.replicate k.toNat a).flatten)) H)
    (fun x y Q => ∃ a k, x = .str a ∧ y = .int k ∧ 0 ≤ k ∧ k < 2 ^ 62 ∧ a.length * k.toNat ≤ 16777216 ∧ Q (.str (List.replicate k.toNat a).flatten)) := by
  rintro F H x y v u Q k s r1 r2 ⟨a, n, rfl, rfl, h0, h1, h2, q⟩ c
  obtain rfl := r1
  obtain rfl := r2
  exact ⟨a, n, rfl, rfl, h0, h1, h2, c _ H (.str _) F (.refl _ _) rfl q⟩
theorem ops_mulL {K : PySem.W.Frag} : OpS K rRep (fun x y Q => ∃ a k, x = .lst a ∧ y = .int k ∧ 0 ≤ k ∧ k < 2 ^ 62 ∧ a.length * k.toNat ≤ 16777216 ∧ Q (.lst (List.replicate k.toNat a).flatten)) := by
  rintro F H x y v u Q k s r1 r2 ⟨a, n, rfl, rfl, h0, h1, h2, q⟩ c
  unfold Rep at r1
  obtain ⟨p, vs, rfl, e, rl⟩ := r1
  obtain rfl := r2
  refine ⟨p, n, vs, rfl, rfl, s _ _ e, by omega, by omega, by rw [← rl.len, sizeLine_eq]; exact h2, fun z hz => ?_⟩
  have rr := rl.rep n.toNat
  have hf : F z = none := by
    cases q : F z with
    | none => rfl
    | some w => rw [s _ _ q] at hz; cases hz
  refine c _ _ (.lst _) _ (.one hz) ?_ q
  unfold Rep
  exact ⟨z, _, rfl, upd_same, RepL.sub (fun b o e => by rw [upd_ne (ne_of_none e hf)]; exact e) _ _ rr⟩
section
variable {X : Cx} {n : En} {e o a b : Expr} {es : List Expr} {pos pp apos : Pos} {we wb : DE} {wa : DE}
theorem pd_mulA (ha : PD X n a wa) (hb : PD X n b wb) : PD X n (.BinOp a .Mult b pos) (wOp oMulA wa wb) :=
  pd_op ((op_mul.or op_mulW).or (op_mulS.or op_rep)) ((((ops_I (g' := fun i j => .int (i * j)) fun _ _ _ => rfl).or (ops_I (g' := fun i j => .int (i * j)) fun _ _ _ => rfl)).or (ops_mulS.or ops_mulL)).imp fun x y Q h => by
    unfold oMulA at h
    split at h
    · exact .inl (h.1.elim (fun z => .inl ⟨z, h.2⟩) (fun z => .inr ⟨z, h.2⟩))
    · exact .inr (.inl ⟨_, _, rfl, rfl, h⟩)
    · exact .inr (.inr ⟨_, _, rfl, rfl, h⟩)
    · exact h.elim) ha hb
def wRev (w : DE) : DE := fun st Q E => w st (fun v st1 => match v with
  | .d (.lst xs) => Q (.d (.lst xs.reverse)) st1
  | _ => False) E
theorem RepL.reverse {K : PySem.W.Frag} {F : Hp} : ∀ {ds : List D} {vs : List V}, RepL K F ds vs → RepL K F ds.reverse vs.reverse
  | [], _, h => by unfold RepL at h; subst h; exact RepL.nil
  | d :: ds, _, h => by
    unfold RepL at h
    obtain ⟨v, r, rfl, q, t⟩ := h
    rw [List.reverse_cons, List.reverse_cons]
    exact (RepL.reverse t).app (RepL.one q)
theorem pd_rev {k : Nat} {p1 p2 p3 : Pos} (h : PD X n e we) : PD X n (.Subscript e (.Slice none none (some (.UnaryOp .USub (.Constant (.int 1) k p1) p2)) p3) pos) (wRev we) :=
  pd_of (pe_revL h.pe) fun σ H F ρ st Q E R tk hw => by
    refine tE.use R tk hw fun v w1 st1 H1 F1 ρ1 p1 R1 r1 h1 => ?_
    cases w1 <;> first | exact h1.elim | skip
    rename_i x
    cases x <;> first | exact h1.elim | skip
    rename_i xs
    have r1 : Rep X.K F1 (.lst xs) v := r1
    unfold Rep at r1
    obtain ⟨p, vs, rfl, e1, rl⟩ := r1
    refine ⟨p, vs, rfl, .of (R1.ok.sub _ _ e1), fun z hz => ?_⟩
    obtain ⟨p2, R2⟩ := R1.grow (.one (o := .lst vs.reverse) hz)
    have hf : F1 z = none := by
      cases q : F1 z with
      | none => rfl
      | some w => rw [R1.ok.sub _ _ q] at hz; cases hz
    refine ⟨.d (.lst xs.reverse), st1, _, ρ1, p1.trans p2 R1.ok.dom, R2, ?_, h1⟩
    show Rep X.K _ (.lst xs.reverse) (.ref z)
    unfold Rep
    exact ⟨z, _, rfl, upd_same, RepL.sub (fun b o e => by rw [upd_ne (ne_of_none e hf)]; exact e) _ _ rl.reverse⟩
end
end Dl
namespace Dl
open PySem PySem.Spec PyProof.Rows L2
variable [TheW]
abbrev Rd (sp : DSp) (n : Nat) (wb : DS) : Prop := ∀ (ws : List W) (μ : List O) (Q : W → List O → Prop) (E : Ex → List O → Prop), sp ws μ Q E → wb { nx := fun st => Q (.d .non) st.μ, rt := Q, ex := fun x st => E x st.μ } ⟨startD n ws, μ⟩
def kOk : D → Bool
  | .non => true
  | .bl _ => true
  | .int _ => true
  | .str _ => true
  | .tup _ => true
  | .lst _ => true
  | _ => false
def isS : D → Bool | .str _ => true | _ => false
def isI : D → Bool | .int _ => true | _ => false
def isIB : D → Bool | .int _ => true | .bl _ => true | _ => false
def isB : D → Bool | .bl _ => true | _ => false
def isTL : D → Bool | .tup _ => true | .lst _ => true | _ => false
def isT : D → Bool | .tup _ => true | _ => false
def isL : D → Bool | .lst _ => true | _ => false
section
variable {tbl : List ((Ty × Ty) × Bool)} {v : D} {Q : D → Prop}
theorem isiS (h : kOk v = true) (q : Q (.bl (isS v))) : oIsi (ansW tbl) [v, .ty "str"] Q := by
  cases v <;> first | (cases h; done) | exact isi1 _ _ true rfl (by decide +kernel) q | exact isi1 _ _ false rfl (by decide +kernel) q
theorem isiI (h : kOk v = true) (q : Q (.bl (isIB v))) : oIsi (ansW tbl) [v, .ty "int"] Q := by
  cases v <;> first | (cases h; done) | exact isi1 _ _ true rfl (by decide +kernel) q | exact isi1 _ _ false rfl (by decide +kernel) q
theorem isiB (h : kOk v = true) (q : Q (.bl (isB v))) : oIsi (ansW tbl) [v, .ty "bool"] Q := by
  cases v <;> first | (cases h; done) | exact isi1 _ _ true rfl (by decide +kernel) q | exact isi1 _ _ false rfl (by decide +kernel) q
theorem isiT (h : kOk v = true) (q : Q (.bl (isT v))) : oIsi (ansW tbl) [v, .ty "tuple"] Q := by
  cases v <;> first | (cases h; done) | exact isi1 _ _ true rfl (by decide +kernel) q | exact isi1 _ _ false rfl (by decide +kernel) q
theorem isiL (h : kOk v = true) (q : Q (.bl (isL v))) : oIsi (ansW tbl) [v, .ty "list"] Q := by
  cases v <;> first | (cases h; done) | exact isi1 _ _ true rfl (by decide +kernel) q | exact isi1 _ _ false rfl (by decide +kernel) q
theorem isiTL (h : kOk v = true) (q : Q (.bl (isTL v))) : oIsi (ansW tbl) [v, .tup [.ty "list", .ty "tuple"]] Q := by
  cases v <;> first | (cases h; done) | exact isi2 _ _ _ true false rfl (by decide +kernel) (by decide +kernel) q | exact isi2 _ _ _ false true rfl (by decide +kernel) (by decide +kernel) q | exact isi2 _ _ _ false false rfl (by decide +kernel) (by decide +kernel) q
end
def okB (x : D) : Bool := match pyD x with
  | some p => SeqAt.shaped p
  | none => false
def eqD (x y : D) : Bool := match pyD x, pyD y with
  | some p, some q => PyData.eqv p q
  | _, _ => false
theorem eqP {x y : D} {Q : D → Prop} (hx : okB x = true) (hy : okB y = true) (h : Q (.bl (eqD x y))) : oEq x y Q := by
  unfold okB at hx hy
  unfold eqD at h
  cases ex : pyD x with
  | none => rw [ex] at hx; cases hx
  | some p =>
    cases ey : pyD y with
    | none => rw [ey] at hy; cases hy
    | some q =>
      rw [ex] at hx; rw [ey] at hy; rw [ex, ey] at h
      exact ⟨p, q, ex, ey, hx, hy, h⟩
theorem neP {x y : D} {Q : D → Prop} (hx : okB x = true) (hy : okB y = true) (h : Q (.bl (!eqD x y))) : oNe x y Q := by
  unfold okB at hx hy
  unfold eqD at h
  cases ex : pyD x with
  | none => rw [ex] at hx; cases hx
  | some p =>
    cases ey : pyD y with
    | none => rw [ey] at hy; cases hy
    | some q =>
      rw [ex] at hx; rw [ey] at hy; rw [ex, ey] at h
      exact ⟨p, q, ex, ey, hx, hy, h⟩
def codesOk (x : List Nat) : Bool := x.all fun c => decide (c < 1114112)
theorem okB_str {x : List Nat} (hx : codesOk x = true) : okB (.str x) = true := by
  show SeqAt.shaped (.str (mkS x)) = true
  unfold SeqAt.shaped PyData.canLay0
  rw [Bool.and_eq_true]
  exact ⟨by unfold PyData.strOk; simpa [mkS, codesOk] using hx, by unfold PyData.depth; decide⟩
theorem mkS_inj {x y : List Nat} : mkS x = mkS y ↔ x = y := by
  constructor
  · intro h
    have : (mkS x).cps.toList = (mkS y).cps.toList := by rw [h]
    simpa [mkS] using this
  · intro h; rw [h]
theorem eqD_str (x y : List Nat) : eqD (.str x) (.str y) = decide (x = y) := by
  show PyData.eqv (.str (mkS x)) (.str (mkS y)) = _
  unfold PyData.eqv
  by_cases h : x = y
  · subst h; simp
  · rw [decide_eq_false h]
    simp only [beq_eq_false_iff_ne, ne_eq]
    exact fun z => h (mkS_inj.mp z)
/-- two texts -/
theorem eqT {x y : List Nat} {Q : D → Prop} (hx : codesOk x = true) (hy : codesOk y = true) (h : Q (.bl (decide (x = y)))) : oEq (.str x) (.str y) Q :=
  eqP (okB_str hx) (okB_str hy) (by rw [eqD_str]; exact h)
theorem neT {x y : List Nat} {Q : D → Prop} (hx : codesOk x = true) (hy : codesOk y = true) (h : Q (.bl (!decide (x = y)))) : oNe (.str x) (.str y) Q :=
  neP (okB_str hx) (okB_str hy) (by rw [eqD_str]; exact h)
theorem codes_app {x y : List Nat} (hx : codesOk x = true) (hy : codesOk y = true) : codesOk (x ++ y) = true := by
  unfold codesOk at *; rw [List.all_append, hx, hy]; rfl
theorem codes_sub {x y : List Nat} (h : ∀ c ∈ x, c ∈ y) (hy : codesOk y = true) : codesOk x = true :=
  List.all_eq_true.mpr fun c hc => List.all_eq_true.mp hy c (h c hc)
def lcStep (g : DG) (tt : DT) (te : DE) (δ : List (Option W)) (x : D) (μ : List O) (K : D → List O → Prop) (K2 : List O → Prop) : Prop :=
  g (.d x) ⟨δ, μ⟩ (fun st2 => tt st2 (fun b st3 => brD b (te st3 (fun y st4 => match y with
      | .d d => K d st4.μ
      | _ => False) (fun _ _ => False)) (K2 st3.μ)) (fun _ _ => False)) (fun _ _ => False)
section
variable {g : DG} {tt : DT} {te : DE} {δ : List (Option W)} {Q : List D → List O → Prop}
theorem lc_fm (p : D → Bool) (f : D → D) (μ : List O) : ∀ (xs acc : List D), (∀ x ∈ xs, ∀ (K : D → List O → Prop) (K2 : List O → Prop), (p x = true → K (f x) μ) → (p x = false → K2 μ) → lcStep g tt te δ x μ K K2) →
    acc.length + xs.length ≤ 16777216 → Q (acc ++ (xs.filter p).map f) μ → wLcL g tt te δ Q xs acc μ
  | [], acc, _, _, hq => by
    have : Q acc μ := by simpa using hq
    exact this
  | x :: xs, acc, h, hl, hq => by
    have hl' : acc.length + xs.length + 1 ≤ 16777216 := by simp only [List.length_cons] at hl; omega
    refine h x (by simp) (fun d μ' => acc.length < 16777216 ∧ wLcL g tt te δ Q xs (acc ++ [d]) μ') (fun μ' => wLcL g tt te δ Q xs acc μ') (fun hp => ⟨by omega, ?_⟩) fun hp => ?_
    · refine lc_fm p f μ xs _ (fun y hy => h y (List.mem_cons_of_mem _ hy)) (by simp only [List.length_append, List.length_singleton]; omega) ?_
      rw [List.filter_cons, if_pos hp, List.map_cons] at hq
      simpa using hq
    · refine lc_fm p f μ xs _ (fun y hy => h y (List.mem_cons_of_mem _ hy)) (by omega) ?_
      rw [List.filter_cons, if_neg (by simp [hp])] at hq
      exact hq
theorem lc_map (f : D → D) (μ : List O) (xs : List D) (h : ∀ x ∈ xs, ∀ (K : D → List O → Prop) (K2 : List O → Prop), K (f x) μ → lcStep g tt te δ x μ K K2) (hl : xs.length ≤ 16777216) (hq : Q (xs.map f) μ) : lcP g tt te δ Q xs [] μ :=
  ⟨lc_fm (fun _ => true) f μ xs [] (fun x hx K K2 k _ => h x hx K K2 (k rfl)) (by simpa using hl) (by rw [List.filter_eq_self.mpr (by simp)]; simpa using hq)⟩
theorem lc_filter (p : D → Bool) (f : D → D) (μ : List O) (xs : List D) (h : ∀ x ∈ xs, ∀ (K : D → List O → Prop) (K2 : List O → Prop), (p x = true → K (f x) μ) → (p x = false → K2 μ) → lcStep g tt te δ x μ K K2) (hl : xs.length ≤ 16777216) (hq : Q ((xs.filter p).map f) μ) : lcP g tt te δ Q xs [] μ :=
  ⟨lc_fm p f μ xs [] h (by simpa using hl) (by simpa using hq)⟩
/-- the bag at j is drawn from -/
theorem lc_bagG (j : Nat) (r : D → D → Prop) (opt : Bool) : ∀ (xs acc : List D) (μ : List O) (b : O), μ[j]? = some b → BagOk b →
    (∀ x ∈ xs, ∀ (μ' : List O) (b : O), μ'[j]? = some b → BagOk b → ∀ (K : D → List O → Prop) (K2 : List O → Prop), (∀ d b', r x d → BagOk b' → K d (μ'.set j b')) → (opt = true → ∀ b', BagOk b' → K2 (μ'.set j b')) → lcStep g tt te δ x μ' K K2) →
    acc.length + xs.length ≤ 16777216 → (∀ (ys ds : List D) b', ys.Sublist xs → (opt = false → ys = xs) → ys.length = ds.length → (∀ p ∈ ys.zip ds, r p.1 p.2) → BagOk b' → Q (acc ++ ds) (μ.set j b')) → wLcL g tt te δ Q xs acc μ
  | [], acc, μ, b, hb, ok, _, _, hq => by
    have e : μ.set j b = μ := List.ext_getElem? fun i => by
      by_cases z : j = i
      · subst z
        rw [List.getElem?_set_self (List.getElem?_eq_some_iff.mp hb).1, hb]
      · rw [List.getElem?_set_ne z]
    have := hq [] [] b (List.nil_sublist _) (fun _ => rfl) rfl (fun p hp => by cases hp) ok
    rw [e, List.append_nil] at this
    exact this
  | x :: xs, acc, μ, b, hb, ok, h, hl, hq => by
    have hl' : acc.length + xs.length + 1 ≤ 16777216 := by simp only [List.length_cons] at hl; omega
    have hj := (List.getElem?_eq_some_iff.mp hb).1
    refine h x (by simp) μ b hb ok (fun d μ' => acc.length < 16777216 ∧ wLcL g tt te δ Q xs (acc ++ [d]) μ') (fun μ' => wLcL g tt te δ Q xs acc μ') (fun d b' hr ok' => ⟨by omega, ?_⟩) fun ho b' ok' => ?_
    · refine lc_bagG j r opt xs _ (μ.set j b') b' (List.getElem?_set_self hj) ok' (fun y hy => h y (List.mem_cons_of_mem _ hy)) (by simp only [List.length_append, List.length_singleton]; omega) fun ys ds b2 hs h0 hlen hall ok2 => ?_
      have := hq (x :: ys) (d :: ds) b2 (hs.cons₂ x) (fun z => by rw [h0 z]) (by simp [hlen]) (fun p hp => by
        rcases List.mem_cons.mp (show p ∈ (x, d) :: ys.zip ds from hp) with z | z
        · rw [z]; exact hr
        · exact hall p z) ok2
      rw [List.set_set]
      simpa using this
    · refine lc_bagG j r opt xs _ (μ.set j b') b' (List.getElem?_set_self hj) ok' (fun y hy => h y (List.mem_cons_of_mem _ hy)) (by omega) fun ys ds b2 hs h0 hlen hall ok2 => ?_
      have := hq ys ds b2 (hs.cons x) (fun z => by rw [z] at ho; cases ho) hlen hall ok2
      rw [List.set_set]
      exact this
theorem lc_bag (j : Nat) (r : D → D → Prop) {xs : List D} {μ : List O} (b : O) (hb : μ[j]? = some b) (ok : BagOk b)
    (h : ∀ x ∈ xs, ∀ (μ' : List O) (b : O), μ'[j]? = some b → BagOk b → ∀ (K : D → List O → Prop) (K2 : List O → Prop), (∀ d b', r x d → BagOk b' → K d (μ'.set j b')) → lcStep g tt te δ x μ' K K2)
    (hl : xs.length ≤ 16777216) (hq : ∀ (ds : List D) b', xs.length = ds.length → (∀ p ∈ xs.zip ds, r p.1 p.2) → BagOk b' → Q ds (μ.set j b')) : lcP g tt te δ Q xs [] μ :=
  ⟨lc_bagG j r false xs [] μ b hb ok (fun x hx μ' b hb ok K K2 k _ => h x hx μ' b hb ok K K2 k) (by simpa using hl) fun ys ds b' hs h0 hlen hall ok' => by
    have e := h0 rfl
    subst e
    simpa using hq ds b' hlen hall ok'⟩
/-- some of them, by draws -/
theorem lc_bagF (j : Nat) {xs : List D} {μ : List O} (b : O) (hb : μ[j]? = some b) (ok : BagOk b)
    (h : ∀ x ∈ xs, ∀ (μ' : List O) (b : O), μ'[j]? = some b → BagOk b → ∀ (K : D → List O → Prop) (K2 : List O → Prop), (∀ b', BagOk b' → K x (μ'.set j b')) → (∀ b', BagOk b' → K2 (μ'.set j b')) → lcStep g tt te δ x μ' K K2)
    (hl : xs.length ≤ 16777216) (hq : ∀ (ys : List D) b', ys.Sublist xs → BagOk b' → Q ys (μ.set j b')) : lcP g tt te δ Q xs [] μ :=
  ⟨lc_bagG j (fun x d => x = d) true xs [] μ b hb ok (fun x hx μ' b hb ok K K2 k k2 => h x hx μ' b hb ok K K2 (fun b' ok' => k x b' rfl ok') (k2 rfl)) (by simpa using hl) fun ys ds b' hs _ hlen hall ok' => by
    have e : ys = ds := by
      refine List.ext_getElem hlen fun i h1 h2 => hall (ys[i], ds[i]) ?_
      have : (ys.zip ds)[i]'(by simp; omega) = (ys[i], ds[i]) := by simp
      rw [← this]; exact List.getElem_mem _
    subst e
    simpa using hq ys b' hs ok'⟩
end
theorem joinD_nil : ∀ zs : List (List Nat), joinD [] zs = zs.flatten
  | [] => rfl
  | [p] => by simp [joinD]
  | p :: q :: r => by
    show p ++ ([] ++ joinD [] (q :: r)) = _
    rw [joinD_nil (q :: r)]
    simp
theorem strsD_map (f : α → List Nat) : ∀ xs : List α, strsD (xs.map fun x => .str (f x)) = some (xs.map f)
  | [] => rfl
  | x :: xs => by
    show (match strsD (xs.map fun x => .str (f x)) with
      | some r => some (f x :: r)
      | none => none) = _
    rw [strsD_map f xs]
    rfl
theorem bools_map (f : α → Bool) : ∀ xs : List α, bools (xs.map fun x => .bl (f x)) = some (xs.map f)
  | [] => rfl
  | x :: xs => by
    show (match bools (xs.map fun x => .bl (f x)) with
      | some r => some (f x :: r)
      | none => none) = _
    rw [bools_map f xs]
    rfl
/-- all(..) of a list of truth values -/
theorem all_of {xs : List α} {f : α → Bool} {Q : D → Prop} (h : Q (.bl (xs.all f))) : oAll [.lst (xs.map fun x => .bl (f x))] Q :=
  ⟨_, bools_map f xs, by rw [List.all_map]; exact h⟩
theorem any_of {xs : List α} {f : α → Bool} {Q : D → Prop} (h : Q (.bl (xs.any f))) : oAny [.lst (xs.map fun x => .bl (f x))] Q :=
  ⟨_, bools_map f xs, by rw [List.any_map]; exact h⟩
theorem int_digit {c : Nat} {Q : D → Prop} (h : 48 ≤ c ∧ c ≤ 57) (q : Q (.int ((c : Int) - 48))) : oIntS [.str [c]] Q := by
  refine ⟨(c : Int) - 48, ?_, by simp, q⟩
  obtain ⟨h1, h2⟩ := h
  have e : c = 48 ∨ c = 49 ∨ c = 50 ∨ c = 51 ∨ c = 52 ∨ c = 53 ∨ c = 54 ∨ c = 55 ∨ c = 56 ∨ c = 57 := by omega
  rcases e with e | e | e | e | e | e | e | e | e | e <;> subst e <;> decide +kernel
theorem intD {c : Nat} (h : 48 ≤ c ∧ c ≤ 57) : PySem.intText? (mkS [c]) = some ((c : Int) - 48) := by
  obtain ⟨h1, h2⟩ := h
  have e : c = 48 ∨ c = 49 ∨ c = 50 ∨ c = 51 ∨ c = 52 ∨ c = 53 ∨ c = 54 ∨ c = 55 ∨ c = 56 ∨ c = 57 := by omega
  rcases e with e | e | e | e | e | e | e | e | e | e <;> subst e <;> decide +kernel
theorem set_same {μ : List O} {j : Nat} {b : O} (hb : μ[j]? = some b) : μ.set j b = μ := List.ext_getElem? fun i => by
  by_cases z : j = i
  · subst z
    rw [List.getElem?_set_self (List.getElem?_eq_some_iff.mp hb).1, hb]
  · rw [List.getElem?_set_ne z]
section
variable {g : DG} {tt : DT} {te : DE} {δ : List (Option W)} {Q : List D → List O → Prop} {α : Type}
theorem lc_mapA (L : List α) (h : α → D) (f : α → D) (μ : List O) (hs : ∀ a ∈ L, ∀ (K : D → List O → Prop) (K2 : List O → Prop), K (f a) μ → lcStep g tt te δ (h a) μ K K2) (hl : L.length ≤ 16777216) (hq : Q (L.map f) μ) : lcP g tt te δ Q (L.map h) [] μ := by
  refine ⟨?_⟩
  have go : ∀ (L : List α) (acc : List D), (∀ a ∈ L, ∀ (K : D → List O → Prop) (K2 : List O → Prop), K (f a) μ → lcStep g tt te δ (h a) μ K K2) → acc.length + L.length ≤ 16777216 → Q (acc ++ L.map f) μ → wLcL g tt te δ Q (L.map h) acc μ := by
    intro L
    induction L with
    | nil =>
      intro acc _ _ hq
      have : Q acc μ := by simpa using hq
      exact this
    | cons a L ih =>
      intro acc hs hl hq
      have hl' : acc.length + L.length + 1 ≤ 16777216 := by simp only [List.length_cons] at hl; omega
      refine hs a (by simp) (fun d μ' => acc.length < 16777216 ∧ wLcL g tt te δ Q (L.map h) (acc ++ [d]) μ') (fun μ' => wLcL g tt te δ Q (L.map h) acc μ') ⟨by omega, ?_⟩
      exact ih _ (fun b hb => hs b (List.mem_cons_of_mem _ hb)) (by simp only [List.length_append, List.length_singleton]; omega) (by simpa using hq)
  exact go L [] hs (by simpa using hl) (by simpa using hq)
theorem lc_filterA (L : List α) (h : α → D) (p : α → Bool) (f : α → D) (μ : List O) (hs : ∀ a ∈ L, ∀ (K : D → List O → Prop) (K2 : List O → Prop), (p a = true → K (f a) μ) → (p a = false → K2 μ) → lcStep g tt te δ (h a) μ K K2) (hl : L.length ≤ 16777216) (hq : Q ((L.filter p).map f) μ) : lcP g tt te δ Q (L.map h) [] μ := by
  refine ⟨?_⟩
  have go : ∀ (L : List α) (acc : List D), (∀ a ∈ L, ∀ (K : D → List O → Prop) (K2 : List O → Prop), (p a = true → K (f a) μ) → (p a = false → K2 μ) → lcStep g tt te δ (h a) μ K K2) → acc.length + L.length ≤ 16777216 → Q (acc ++ (L.filter p).map f) μ → wLcL g tt te δ Q (L.map h) acc μ := by
    intro L
    induction L with
    | nil =>
      intro acc _ _ hq
      have : Q acc μ := by simpa using hq
      exact this
    | cons a L ih =>
      intro acc hs hl hq
      have hl' : acc.length + L.length + 1 ≤ 16777216 := by simp only [List.length_cons] at hl; omega
      refine hs a (by simp) (fun d μ' => acc.length < 16777216 ∧ wLcL g tt te δ Q (L.map h) (acc ++ [d]) μ') (fun μ' => wLcL g tt te δ Q (L.map h) acc μ') (fun hp => ⟨by omega, ?_⟩) fun hp => ?_
      · refine ih _ (fun b hb => hs b (List.mem_cons_of_mem _ hb)) (by simp only [List.length_append, List.length_singleton]; omega) ?_
        rw [List.filter_cons, if_pos hp] at hq
        simpa using hq
      · refine ih _ (fun b hb => hs b (List.mem_cons_of_mem _ hb)) (by omega) ?_
        rw [List.filter_cons, if_neg (by simp [hp])] at hq
        exact hq
  exact go L [] hs (by simpa using hl) (by simpa using hq)
end
theorem zipD_map {α β : Type} (f : α → D) (g : β → D) (xs : List α) (ys : List β) : zipD (xs.map f) (ys.map g) = (xs.zip ys).map fun p => .tup [f p.1, g p.2] := by
  unfold zipD
  rw [List.zipWith_map, List.zip_eq_zipWith, List.map_zipWith]
theorem zipD_self (xs ys : List D) : zipD xs ys = (xs.zip ys).map fun p => .tup [p.1, p.2] := by
  unfold zipD
  rw [List.zip_eq_zipWith, List.map_zipWith]
theorem enumD_map {α : Type} (f : α → D) (xs : List α) : enumD (xs.map f) = xs.zipIdx.map fun p => .tup [.int p.2, f p.1] := by
  unfold enumD
  rw [List.zipIdx_map, List.map_map]
  rfl
theorem met_d {c m : Str} {ks : List Str} {vs : List D} {μ : List O} {A : Prop} (h : lookD m ks vs = none) (a : A) : metP c m (.d (.ins c ks vs)) μ A := ⟨.inl ⟨_, _, rfl, h⟩, a⟩
theorem fld_d {c f : Str} {ks : List Str} {vs : List D} {μ : List O} {Q : D → Prop} {d : D} (h : lookD f ks vs = some d) (q : Q d) : fldP c f (.d (.ins c ks vs)) μ Q := ⟨.inl ⟨_, _, d, rfl, h, q⟩⟩
theorem prp_d {c : Str} {sp : DSp} {ks : List Str} {vs : List D} {st : Dst} {Q : DQ} (h : wFn sp [.d (.ins c ks vs)] st Q (fun _ _ => False)) : prpP c sp (.d (.ins c ks vs)) st Q := ⟨.inl ⟨_, _, rfl⟩, h⟩
section
variable {g : DG} {tt : DT} {te : DE} {δ : List (Option W)} {Q : List D → List O → Prop}
theorem lc_zipA {α β : Type} (L1 : List α) (L2 : List β) (f1 : α → D) (f2 : β → D) (f : α × β → D) (μ : List O) (hs : ∀ p ∈ L1.zip L2, ∀ (K : D → List O → Prop) (K2 : List O → Prop), K (f p) μ → lcStep g tt te δ (.tup [f1 p.1, f2 p.2]) μ K K2) (hl : (L1.zip L2).length ≤ 16777216) (hq : Q ((L1.zip L2).map f) μ) :
    lcP g tt te δ Q (zipD (L1.map f1) (L2.map f2)) [] μ := by
  rw [zipD_map]
  exact lc_mapA _ _ f μ hs hl hq
theorem lc_zipD (xs ys : List D) (f : D × D → D) (μ : List O) (hs : ∀ p ∈ xs.zip ys, ∀ (K : D → List O → Prop) (K2 : List O → Prop), K (f p) μ → lcStep g tt te δ (.tup [p.1, p.2]) μ K K2) (hl : (xs.zip ys).length ≤ 16777216) (hq : Q ((xs.zip ys).map f) μ) :
    lcP g tt te δ Q (zipD xs ys) [] μ := by
  rw [zipD_self]
  exact lc_mapA _ _ f μ hs hl hq
end
theorem cutD_all {α : Type} (xs : List α) : cutD xs none none = xs := by
  unfold cutD HT.sIx
  simp
theorem sIx_nat (n d : Nat) (k : Nat) : HT.sIx n d (some (k : Int)) = min k n := by
  unfold HT.sIx
  simp only
  rw [if_neg (by omega)]
  omega
theorem cutD_to {α : Type} (xs : List α) (k : Nat) : cutD xs none (some (k : Int)) = xs.take k := by
  unfold cutD
  rw [sIx_nat]
  have e : HT.sIx xs.length 0 none = 0 := rfl
  rw [e, List.drop_zero, Nat.sub_zero]
  rcases Nat.le_total k xs.length with h | h
  · rw [Nat.min_eq_left h]
  · rw [Nat.min_eq_right h, List.take_of_length_le (Nat.le_refl _), List.take_of_length_le h]
theorem cutD_from {α : Type} (xs : List α) (k : Nat) : cutD xs (some (k : Int)) none = xs.drop k := by
  unfold cutD
  rw [sIx_nat]
  have e : HT.sIx xs.length xs.length none = xs.length := rfl
  rw [e]
  rcases Nat.le_total k xs.length with h | h
  · rw [Nat.min_eq_left h, List.take_of_length_le (by rw [List.length_drop]; exact Nat.le_refl _)]
  · rw [Nat.min_eq_right h, List.drop_of_length_le (Nat.le_refl _), List.drop_of_length_le h]
    simp
theorem ixS {xs : List Nat} {i : Int} {c : Nat} {Q : D → Prop} (hl : xs.length ≤ 16777216) (h : atI xs i = some c) (q : Q (.str [c])) : oIx (.str xs) (.int i) Q := ⟨hl, by rw [h]; exact q⟩
theorem ixL {xs : List D} {i : Int} {d : D} {Q : D → Prop} (h : atI xs i = some d) (q : Q d) : oIx (.lst xs) (.int i) Q := by
  show (match atI xs i with | some d => Q d | none => False)
  rw [h]; exact q
theorem ixT {xs : List D} {i : Int} {d : D} {Q : D → Prop} (h : atI xs i = some d) (q : Q d) : oIx (.tup xs) (.int i) Q := by
  show (match atI xs i with | some d => Q d | none => False)
  rw [h]; exact q
theorem atI_of {α : Type} {xs : List α} {k : Nat} {x : α} (h : xs[k]? = some x) : atI xs (k : Int) = some x := by
  obtain ⟨h1, h2⟩ := List.getElem?_eq_some_iff.mp h
  rw [ix_nat h1, h2]
section
variable {g : DG} {tt : DT} {te : DE} {δ : List (Option W)} {Q : List D → List O → Prop}
/-- a row drawn item by item -/
theorem lc_bagA {α β : Type} (j : Nat) (L : List α) (h : α → D) (f : β → D) (r : α → β → Prop) {μ : List O} (b : O) (hb : μ[j]? = some b) (ok : BagOk b)
    (hs : ∀ a ∈ L, ∀ (μ' : List O) (b : O), μ'[j]? = some b → BagOk b → ∀ (K : D → List O → Prop) (K2 : List O → Prop), (∀ y b', r a y → BagOk b' → K (f y) (μ'.set j b')) → lcStep g tt te δ (h a) μ' K K2)
    (hl : L.length ≤ 16777216) (hq : ∀ (ys : List β) b', ys.length = L.length → (∀ p ∈ L.zip ys, r p.1 p.2) → BagOk b' → Q (ys.map f) (μ.set j b')) : lcP g tt te δ Q (L.map h) [] μ := by
  refine ⟨?_⟩
  have go : ∀ (L : List α) (acc : List D) (μ : List O) (b : O), μ[j]? = some b → BagOk b →
      (∀ a ∈ L, ∀ (μ' : List O) (b : O), μ'[j]? = some b → BagOk b → ∀ (K : D → List O → Prop) (K2 : List O → Prop), (∀ y b', r a y → BagOk b' → K (f y) (μ'.set j b')) → lcStep g tt te δ (h a) μ' K K2) →
      acc.length + L.length ≤ 16777216 → (∀ (ys : List β) b', ys.length = L.length → (∀ p ∈ L.zip ys, r p.1 p.2) → BagOk b' → Q (acc ++ ys.map f) (μ.set j b')) → wLcL g tt te δ Q (L.map h) acc μ := by
    intro L
    induction L with
    | nil =>
      intro acc μ b hb ok _ _ hq
      have := hq [] b rfl (fun p hp => by cases hp) ok
      rw [set_same hb] at this
      have : Q acc μ := by simpa using this
      exact this
    | cons a L ih =>
      intro acc μ b hb ok hs hl hq
      have hl' : acc.length + L.length + 1 ≤ 16777216 := by simp only [List.length_cons] at hl; omega
      have hj := (List.getElem?_eq_some_iff.mp hb).1
      refine hs a (by simp) μ b hb ok (fun d μ' => acc.length < 16777216 ∧ wLcL g tt te δ Q (L.map h) (acc ++ [d]) μ') (fun μ' => wLcL g tt te δ Q (L.map h) acc μ') fun y b' hr ok' => ⟨by omega, ?_⟩
      refine ih _ (μ.set j b') b' (List.getElem?_set_self hj) ok' (fun b hb => hs b (List.mem_cons_of_mem _ hb)) (by simp only [List.length_append, List.length_singleton]; omega) fun ys b2 hlen hall ok2 => ?_
      have := hq (y :: ys) b2 (by simp [hlen]) (fun p hp => by
        rcases List.mem_cons.mp (show p ∈ (a, y) :: L.zip ys from hp) with z | z
        · rw [z]; exact hr
        · exact hall p z) ok2
      rw [List.set_set]
      simpa using this
  exact go L [] μ b hb ok hs (by simpa using hl) (by simpa using hq)
end
theorem flat_single (ys : List Nat) : (ys.map fun c => [c]).flatten = ys := by
  induction ys with
  | nil => rfl
  | cons y ys ih => simp [ih]
/-- "".join of a row of signs -/
theorem join_signs {ys : List Nat} {Q : D → Prop} (hl : ys.length ≤ 100000) (h : Q (.str ys)) : oJoin (.str []) [.lst (ys.map fun c => .str [c])] Q := by
  refine ⟨ys.map fun c => [c], strsD_map (fun c => [c]) ys, ?_, ?_⟩
  · have : (List.map (fun x => x.length) (ys.map fun c => [c])).sum = ys.length := by
      rw [List.map_map]
      clear h hl
      induction ys with
      | nil => rfl
      | cons y ys ih => simp [ih]; omega
    simp only [List.length_nil, Nat.mul_zero, Nat.add_zero]
    rw [this]; omega
  · rw [joinD_nil, flat_single]; exact h
theorem get_end {α : Type} (r : List α) (x : α) : (r ++ [x])[r.length]? = some x := by simp
theorem set_end {α : Type} (r : List α) (x y : α) : (r ++ [x]).set r.length y = r ++ [y] := by simp
theorem cut_all {α : Type} (xs : List α) (lo hi : Option Int) {p : α → Bool} (h : xs.all p = true) : (Dl.cutD xs lo hi).all p = true := List.all_eq_true.mpr fun c hc => List.all_eq_true.mp h c (List.mem_of_mem_drop (List.mem_of_mem_take hc))
theorem cut_len {α : Type} (xs : List α) (lo hi : Option Int) : (Dl.cutD xs lo hi).length ≤ xs.length := by
  unfold Dl.cutD
  rw [List.length_take, List.length_drop]
  omega
end Dl
namespace Dl
open PySem PySem.Spec PyProof.Rows L2
variable [TheW]
def SpSt (K : PySem.W.Frag) (m : Nat) (c : DSp) : Sp := fun vs H Q E => ∃ ws rest, vs = ws ++ rest ∧ ws.length = m ∧ rest.length ≤ sizeLine ∧ ∀ p, H p = none → SpD K (m + 1) c (ws ++ [V.ref p]) (upd H p (.tup rest)) Q E
structure StD (P : Program) (w : World) (K : PySem.W.Frag) (mg : Str → Option Value) (base : Heap) (c m : Str) (k j : Nat) (sp : DSp) : Prop where
  ex : ∃ f, FnR P w K mg base (L2.CX P w) k f (SpSt K j sp) ∧ Cls K (He.ga K c) ∧ BMeth K (He.ga K c) m f
structure stP (sp : DSp) (j : Nat) (ws : List W) (st : Dst) (Q : DQ) (E : DX) : Prop where
  ex : ∃ fs ds, ws = fs ++ ds.map W.d ∧ fs.length = j ∧ ds.length ≤ 16777216 ∧ wFn sp (fs ++ [.d (.tup ds)]) st Q E
theorem RepWL.split {K : PySem.W.Frag} {F : Hp} {ρ : List Addr} : ∀ {ws us : List W} {vs : List V}, RepWL K F ρ (ws ++ us) vs → ∃ v1 v2, vs = v1 ++ v2 ∧ RepWL K F ρ ws v1 ∧ RepWL K F ρ us v2
  | [], us, vs, h => ⟨[], vs, rfl, rfl, h⟩
  | w :: ws, us, _, ⟨v, r, e, q, t⟩ => by
    subst e
    obtain ⟨v1, v2, rfl, h1, h2⟩ := RepWL.split (ws := ws) t
    exact ⟨v :: v1, v2, rfl, ⟨v, v1, rfl, q, h1⟩, h2⟩
section
variable {X : Cx} {n : En} {e o : Expr} {es : List Expr} {pos p p2 apos : Pos}
theorem run_fnRS {CX : CXT} {k : Nat} {f : Addr} {sp : Sp} {E : L2.St → XK} {Q : VK} {us : List Value} {vs : List V} {pins : List (Addr × Obj)} {σ : L2.St} {H : Hp} {s : Shared} (F : FnR X.prog X.w X.K X.mg X.base CX k f sp) (hr : Room k X.A) (hx : PassesAt CX X σ (E σ)) (I : Inv X pins σ H s) (r : Vals vs us) (h : sp vs H Q (E σ)) :
    codeAny (model X.prog X.w) X.A (.call (.ref f) ⟨us, []⟩) (fun r s' => match r with | .ok (.ret v) => EP X pins σ Q v s' | .ok _ => False | .error e => X.xe e s') s := by
  refine codeAny_mono (F X.A X.stack s H us vs Q (E σ) hr I.env0 r h) fun r s' hq => ?_
  cases r with
  | error e => exact hx pins H s e s' I hq
  | ok fl =>
    cases fl with
    | ret u => exact I.after hq
    | next => exact False.elim hq
    | brk => exact False.elim hq
    | cont => exact False.elim hq
theorem st_sp {sp : DSp} {j : Nat} {σ : L2.St} {H F : Hp} {ρ : List Addr} {st : Dst} {vs : List V} {ws : List W} {Q : DQ} {E : DX} (R : Rl X.K n F ρ st σ H) (r : RepWL X.K F ρ ws vs) (h : stP sp j ws st Q E) {EX : XK}
    (hE : ∀ cls d H', (∃ st' F' ρ' x, Rl X.K n F' ρ' st' σ H' ∧ ExRep X.K F' x cls d H' ∧ E x st') → EX cls d H') :
    SpSt X.K j sp vs H (fun v H' => ∃ w' st' F' ρ', Post F ρ H F' ρ' H' ∧ Rl X.K n F' ρ' st' σ H' ∧ RepW X.K F' ρ' w' v ∧ Q w' st') EX := by
  obtain ⟨fs, ds, rfl, hl, hz, hw⟩ := h.ex
  obtain ⟨v1, v2, rfl, r1, r2⟩ := r.split
  have rd := r2.ofD
  refine ⟨v1, v2, rfl, by rw [← r1.len]; exact hl, by rw [← rd.len, sizeLine_eq]; exact hz, fun p hp => ?_⟩
  obtain ⟨p2, R2⟩ := R.grow (.one (o := .tup v2) hp)
  have hf : F p = none := by
    cases q : F p with
    | none => rfl
    | some u => rw [R.ok.sub p u q] at hp; cases hp
  have rt : RepW X.K (upd F p (.tup v2)) ρ (.d (.tup ds)) (.ref p) := by
    show Rep _ _ _ _
    unfold Rep
    exact ⟨p, v2, rfl, .inl upd_same, RepL.sub (fun b o e => by rw [upd_ne (ne_of_none e hf)]; exact e) _ _ rd⟩
  obtain ⟨F0, ρ0, μ0, ws0, QD, ED, a1, a2, a3, a4, a5, a6⟩ := call_sp (m := j + 1) R2 ((r1.post p2).app (show RepWL X.K _ ρ [.d (.tup ds)] [.ref p] from ⟨_, _, rfl, rt, rfl⟩)) (by simp [hl]) hw (EX := EX) hE
  refine ⟨F0, ρ0, μ0, ws0, QD, ED, a1, a2, a3, a4, fun w μ' v F' ρ' H' q1 q2 q3 q4 => ?_, a6⟩
  obtain ⟨w', st', F'', ρ'', b1, b2, b3, b4⟩ := a5 w μ' v F' ρ' H' q1 q2 q3 q4
  exact ⟨w', st', F'', ρ'', p2.trans b1 R2.ok.dom, b2, b3, b4⟩
def wMethSt (c m : Str) (j : Nat) (sp : DSp) (wo : DE) (wa : DA) : DE := fun st Q E => wo st (fun o st1 => metP c m o st1.μ (wa st1 (fun ws st2 => stP sp j (o :: ws) st2 Q E) E)) E
theorem pd_methSt {pl : Sem Bool} {c m : Str} {k j : Nat} {sp : DSp} {wo : DE} {wa : DA} (D : StD X.prog X.w X.K X.mg X.base c m k j sp) (hr : Room k X.A) (ho : PD X n o wo) (ha : PAD X n (e :: es) wa)
    (hst : starEach (e :: es) X.env = (false, eval e X.env) :: starEach es X.env := by rfl) (hpl : (backTo pos (starEach es X.env)).any (·.1) = false := by rfl)
    (ht : eval (.Call (.Attribute o m apos) (e :: es) [] pos) X.env = (do
      let ov ← eval o X.env
      standAt apos.atName
      let (f, first) ← holding [ov] (getMethod ov m pl)
      callWith pos f first (backTo pos (starEach (e :: es) X.env)) (backToKw pos (keywordEach [] X.env))) := by rfl) :
    PD X n (.Call (.Attribute o m apos) (e :: es) [] pos) (wMethSt c m j sp wo wa) := by
  obtain ⟨f, Fn, hc, hm⟩ := D.ex
  refine ⟨fun pins s σ H F ρ st Q E I R tk hw => ?_⟩
  refine PySem.W.methodCall_KW (pl := pl) (thn (ho.run pins s σ H F ρ st _ E I R tk hw) fun u s1 ⟨v, o1, st1, H1, F1, ρ1, I1, rv, p1, R1, r1, h1⟩ => ?_) ht
  obtain ⟨a, dx, fs, rfl, ea, l⟩ := h1.at R1 r1
  obtain rfl : u = Value.ref a := rv
  refine getmeth_ok I1 ea hc hm.mt l ?_
  refine PySem.W.callWith_K (first := [.ref a]) (h₀ := X.base) I.ok.mod.kin hm.mt.kp (thn (ha.run pos pins s1 σ H1 F1 ρ1 st1 _ E I1 R1 tk h1.go) fun us s2 ⟨vs, ws, st2, H2, F2, ρ2, I2, r, p2, R2, rw, q⟩ => ⟨I2.kIn, ?_⟩) hst hpl
  refine thn (wpAny_call (run_fnRS (us := .ref a :: us) (vs := .ref a :: vs) Fn hr (passAt tk σ) I2 (.cons rfl r) (st_sp (ws := o1 :: ws) R2 ⟨_, _, rfl, r1.post p2, rw⟩ q fun cls d H' z => z))) fun u s3 ⟨v, H3, I3, r3, w', st', F', ρ', p3, R3, rw3, q3⟩ => ?_
  exact ⟨v, w', st', H3, F', ρ', I3, r3, (p1.trans p2 R1.ok.dom).trans p3 R2.ok.dom, R3, rw3, q3⟩
theorem pd_methSt0 {pl : Sem Bool} {c m : Str} {k j : Nat} {sp : DSp} {wo : DE} (D : StD X.prog X.w X.K X.mg X.base c m k j sp) (hr : Room k X.A) (ho : PD X n o wo)
    (ht : eval (.Call (.Attribute o m apos) [] [] pos) X.env = (do
      let ov ← eval o X.env
      standAt apos.atName
      let (f, first) ← holding [ov] (getMethod ov m pl)
      callWith pos f first (backTo pos (starEach [] X.env)) (backToKw pos (keywordEach [] X.env))) := by rfl) :
    PD X n (.Call (.Attribute o m apos) [] [] pos) (wMethSt c m j sp wo wNil) := by
  obtain ⟨f, Fn, hc, hm⟩ := D.ex
  refine ⟨fun pins s σ H F ρ st Q E I R tk hw => ?_⟩
  refine PySem.W.methodCall_KW (pl := pl) (thn (ho.run pins s σ H F ρ st _ E I R tk hw) fun u s1 ⟨v, o1, st1, H1, F1, ρ1, I1, rv, p1, R1, r1, h1⟩ => ?_) ht
  obtain ⟨a, dx, fs, rfl, ea, l⟩ := h1.at R1 r1
  obtain rfl : u = Value.ref a := rv
  refine getmeth_ok I1 ea hc hm.mt l ?_
  have q : stP sp j [o1] st1 Q E := h1.go
  refine PySem.W.callWith_K0 (first := [.ref a]) I1.kIn hm.mt.kp ?_
  refine thn (wpAny_call (run_fnRS (us := [.ref a]) (vs := [.ref a]) Fn hr (passAt tk σ) I1 (.cons rfl .nil) (st_sp (ws := [o1]) R1 ⟨_, _, rfl, r1, rfl⟩ q fun cls d H' z => z))) fun u s3 ⟨v, H3, I3, r3, w', st', F', ρ', p3, R3, rw3, q3⟩ => ?_
  exact ⟨v, w', st', H3, F', ρ', I3, r3, p1.trans p3 R1.ok.dom, R3, rw3, q3⟩
structure seqP (v : W) (st : Dst) (Q : List D → Dst → Prop) : Prop where
  ex : ∃ ds, (v = .d (.tup ds) ∨ v = .d (.lst ds)) ∧ Q ds st
def wMethSS (c m : Str) (j : Nat) (sp : DSp) (wo we : DE) : DE := fun st Q E => wo st (fun o st1 => metP c m o st1.μ (we st1 (fun v st2 => seqP v st2 fun ds st3 => stP sp j (o :: ds.map W.d) st3 Q E) E)) E
theorem pd_methSS {c m : Str} {k j : Nat} {sp : DSp} {wo we : DE} (D : StD X.prog X.w X.K X.mg X.base c m k j sp) (hr : Room k X.A) (ho : PD X n o wo) (ha : PD X n e we) (hbase : attributeBase o m X.env (eval o X.env) = eval o X.env := by rfl) :
    PD X n (.Call (.Attribute o m apos) [.Starred e p] [] pos) (wMethSS c m j sp wo we) := by
  obtain ⟨f, Fn, hc, hm⟩ := D.ex
  refine ⟨fun pins s σ H F ρ st Q E I R tk hw => ?_⟩
  refine starcall_of hbase (thn (ho.run pins s σ H F ρ st _ E I R tk hw) fun u s1 ⟨v, o1, st1, H1, F1, ρ1, I1, rv, p1, R1, r1, h1⟩ => ?_)
  obtain ⟨a, dx, fs, rfl, ea, l⟩ := h1.at R1 r1
  obtain rfl : u = Value.ref a := rv
  refine getbound_ok I1 ea hc hm l fun q1 s2 hq1 I2 => ?_
  obtain ⟨pq, Rq⟩ := R1.grow (.one (o := .met f a) hq1)
  refine PySem.W.ks_call (P := PySem.W.MethP X.K q1 f (.ref a)) rfl (PySem.W.keeps_M hm.fi) (PySem.W.ks_lone ?_)
  refine thn (ha.run pins s2 σ _ _ ρ1 st1 _ E I2 Rq tk h1.go) fun v s3 ⟨y, w2, st2, H2, F2, ρ2, I3, ry, p2, R2, r2, q2⟩ => ?_
  obtain ⟨ds, hv, q2⟩ := q2.ex
  have hmet : H2 q1 = some (.met f a) := R2.ok.sub _ _ (p2.le _ _ upd_same)
  obtain ⟨t, vs, ey, ht, rl⟩ : ∃ t vs, y = V.ref t ∧ (SqT X.K H2 t vs ∨ SqL X.K H2 t vs) ∧ RepL X.K F2 ds vs := by
    rcases hv with rfl | rfl
    · have r2 : Rep X.K F2 (.tup ds) y := r2
      unfold Rep at r2
      obtain ⟨t, vs, ey, h, rl⟩ := r2
      exact ⟨t, vs, ey, .inl (h.sq R2.ok.sub), rl⟩
    · have r2 : Rep X.K F2 (.lst ds) y := r2
      unfold Rep at r2
      obtain ⟨t, vs, ey, h, rl⟩ := r2
      exact ⟨t, vs, ey, .inr (.of (R2.ok.sub _ _ h)), rl⟩
  subst ey
  obtain rfl : v = Value.ref t := ry
  refine StX.star_any I3 ht fun us s4 I4 rv => ⟨met_P I4 hmet, ?_⟩
  refine wpAny_call (PySem.W.method_call (met_P I4 hmet).1 (codeAny_mono (run_fnRS (us := Value.ref a :: us) (vs := V.ref a :: vs) Fn hr (passAt tk σ) I4 (.cons rfl rv) (st_sp (ws := o1 :: ds.map W.d) R2 ⟨_, _, rfl, (r1.post pq).post p2, RepWL.toD rl⟩ q2 fun cls d H' z => z)) fun r s' hq => ?_))
  cases r with
  | error e => exact hq
  | ok fl =>
    cases fl with
    | ret u =>
      obtain ⟨v, H3, I3, r3, w', st', F', ρ', p3, R3, rw3, q3⟩ := hq
      exact ⟨v, w', st', H3, F', ρ', I3, r3, ((p1.trans pq R1.ok.dom).trans p2 Rq.ok.dom).trans p3 R2.ok.dom, R3, rw3, q3⟩
    | next => exact False.elim hq
    | brk => exact False.elim hq
    | cont => exact False.elim hq
structure CcR (K : PySem.W.Frag) (c : Str) : Prop where
  rd : ClX.CRead K (He.ga K c) (.type "type")
structure CcV (K : PySem.W.Frag) (c f : Str) (v : V) : Prop where
  ex : ∃ u, ClX.CVal K (He.ga K c) (.type "type") f v u
def wCcon (c : Str) (d : D) (w : DE) : DE := fun st Q E => w st (fun v st1 => match v with
  | .d (.cls c') => c' = c ∧ Q (.d d) st1
  | _ => False) E
theorem pd_ccon {c f : Str} {i : Int} {we : DE} (hr : CcR X.K c) (hv : CcV X.K c f (.int i)) (h : PD X n e we) (hb : attributeBase e f X.env (eval e X.env) = eval e X.env := by rfl) : PD X n (.Attribute e f pos) (wCcon c (.int i) we) := by
  obtain ⟨u, hu⟩ := hv.ex
  refine pd_of (ClX.pe_cval h.pe hb) fun σ H F ρ st Q E R tk hw => ?_
  refine tE.use R tk hw fun v w1 st1 H1 F1 ρ1 p1 R1 r1 h1 => ?_
  cases w1 <;> first | exact h1.elim | skip
  rename_i x
  cases x <;> first | exact h1.elim | skip
  obtain ⟨rfl, h1⟩ := h1
  exact ⟨_, _, _, u, r1, hr.rd, hu, .d (.int i), st1, F1, ρ1, p1, R1, rfl, h1⟩
end
def ccRB (K : PySem.W.Frag) (c : Str) : Bool := PySem.W.readsIn K (He.ga K c) (.type "type") && He.eqO (PySem.W.specialIn K (.ref (He.ga K c)) "__getattribute__") (some (some (.builtin "type.__getattribute__")))
theorem ccR_ok {K : PySem.W.Frag} {c : Str} (h : ccRB K c = true) : CcR K c := by
  obtain ⟨h1, h2⟩ := He.ba (show (PySem.W.readsIn K (He.ga K c) (.type "type") && He.eqO _ _) = true from h)
  exact ⟨h1, He.eqO_ok h2⟩
def ccVB (K : PySem.W.Frag) (c f : Str) (i : Int) : Bool := match PySem.W.findCls K (.ref (He.ga K c)) (.type "type") f with
  | some (.val (.int j _)) => decide (j = i)
  | _ => false
theorem ccV_ok {K : PySem.W.Frag} {c f : Str} {i : Int} (h : ccVB K c f i = true) : CcV K c f (.int i) := by
  unfold ccVB at h
  split at h
  · rename_i j t e
    have : j = i := of_decide_eq_true h
    subst this
    exact ⟨_, ⟨e, ⟨t, rfl⟩⟩⟩
  · cases h
section
variable {P : Program} {w : World} {K : PySem.W.Frag} {mg : Str → Option Value} {base : Heap} {c m qual : Str} {st : Stmt} {N : List Str} {k j : Nat} {sp : DSp} {wb : DS} {ps : List Str} {pv : Str}
structure BmF (K : PySem.W.Frag) (c m : Str) : Prop where
  gf : PySem.W.specialIn K (.ref (He.ma K (He.ga K c) m)) "__get__" = some (some (.builtin "function.__get__"))
  tk : PySem.W.takesIn K (.ref (He.ma K (He.ga K c) m)) = some false
  cp : PySem.W.copiedNames.contains m = false
  fi : PySem.W.fnIn K (He.ma K (He.ga K c) m) = true
def bmFB (K : PySem.W.Frag) (c m : Str) : Bool := He.eqO (PySem.W.specialIn K (.ref (He.ma K (He.ga K c) m)) "__get__") (some (some (.builtin "function.__get__"))) && (decide (PySem.W.takesIn K (.ref (He.ma K (He.ga K c) m)) = some false) && (!PySem.W.copiedNames.contains m && PySem.W.fnIn K (He.ma K (He.ga K c) m)))
theorem bmF_ok {K : PySem.W.Frag} {c m : Str} (h : bmFB K c m = true) : BmF K c m := by
  obtain ⟨h1, h2⟩ := He.ba (show (He.eqO _ _ && (_ && (_ && _))) = true from h)
  obtain ⟨h3, h4⟩ := He.ba h2
  obtain ⟨h5, h6⟩ := He.ba h4
  exact ⟨He.eqO_ok h1, of_decide_eq_true h3, by simpa using h5, h6⟩
theorem stD_of (D : DfM K c m qual st []) (S : FnScope N (ps ++ [pv]) (defScope st)) (hj : ps.length = j) (B : BmF K c m) (hb : BodyQ P w K mg base qual st N k wb) (hc : ReadD sp (j + 1) N wb)
    (bd : ∀ (kV doc pm : Value) (an : Option Addr) (cdv ct : Value) (us rest : List Value), us.length = ps.length → bindArgs (PySem.W.fnOf m qual (defArgs st) (defBody st) (defScope st) .none kV doc pm an cdv ct) ⟨us ++ rest, []⟩ = (newTuple rest >>= fun t => pure (ps.zip us ++ [(pv, t)]))) :
    StD P w K mg base c m (k + 1) j sp := by
  subst hj
  obtain ⟨fd, F⟩ := D.ex
  obtain ⟨oc, od, dV, kV, doc, pm, an, cdv, ct, osl, rfl, lk, hcd, hD, hK⟩ := F.ex
  rcases hD with ⟨_, rfl⟩ | ⟨e, _⟩
  case inr => exact (e rfl).elim
  refine ⟨He.ma K (He.ga K c) m, ?_, D.cl, ⟨D.mt, B.gf, B.tk, B.cp, B.fi⟩⟩
  refine StX.fn_star (sp := SpD K (ps.length + 1) sp) lk hcd S StX.cxUp (bd kV doc pm an cdv ct) fun A outer s H vs Q E hr h => ?_
  obtain ⟨F0, ρ, μ, ws, QD, ED, ok, r, hl, h, hq, he⟩ := h
  refine ⟨_, (hb _ cdv A outer s H E ⟨F0, ρ, H⟩ hr).pss, ?_⟩
  have tk : TkD (cxD P w K mg base N qual (defScope st) (He.ma K (He.ga K c) m) cdv A outer s H E) ⟨F0, ρ, H⟩ (fun x st => ED x st.μ) :=
    (takes_of (X := cxD P w K mg base N qual (defScope st) (He.ma K (He.ga K c) m) cdv A outer s H E) rfl rfl rfl rfl).imp fun cls d σ H' ⟨st', F', ρ', x, R, rx, z⟩ => he x st'.μ cls d F' ρ' H' z R.po R.ok rx
  refine tS.use (DD := { nx := fun st => QD (.d .non) st.μ, rt := QD, ex := fun x st => ED x st.μ }) (rl_start (N := N) ok r) tk (hc ws μ QD ED hl h) (fun σ' H' F' ρ' st' p R z => hq _ _ .non F' ρ' H' z p R.ok rfl) (fun v w' H' F' ρ' μ' p p0 ok' rw z => hq _ _ v F' ρ' H' z p ok' rw)
    (fun _ _ _ _ _ _ _ z => z.elim) (fun _ _ _ _ _ _ _ z => z.elim)
end
end Dl
namespace Dl
namespace Exi
open PySem PySem.Spec PySem.Calls PyProof.Rows PySem.W
structure Bs (B i newId : String) (bmB : List Value) : Prop where
  ex : ExcBaseFacts B newId i bmB
  kx : KxsFacts B i
  st : StoreFacts B bmB "object.__setattr__" "object"
theorem store_IndexError : StoreFacts "IndexError" [.type "IndexError", .type "LookupError", .type "Exception", .type "BaseException", .type "object"] "object.__setattr__" "object" where
  mro := by kernel_rfl
  slot := .of (owner := "object") (n := "__setattr__") (by rw [typeLookup_type, builtinLookup_eq_fast]; kernel_rfl) (by decide +kernel) (by decide +kernel) (by decide +kernel)
    (by first | exact .inl (by decide +kernel) | exact .inr (by decide +kernel)) (by rw [isSubtype_type]; kernel_rfl)
  entry := PySem.F.entry_object_sa
  kind := by decide +kernel
  split := by decide +kernel
  hasOwner := by decide +kernel
  args := fun a b c => by unfold argsOk; kernel_rfl
  passes := fun self => by kernel_rfl
theorem bs_ValueError : Bs "ValueError" "ValueError.__init__" "ValueError.__new__" [.type "ValueError", .type "Exception", .type "BaseException", .type "object"] := ⟨PySem.F.excBase_ValueError, kxs_ValueError, PySem.F.store_ValueError⟩
theorem bs_LookupError : Bs "LookupError" "LookupError.__init__" "LookupError.__new__" [.type "LookupError", .type "Exception", .type "BaseException", .type "object"] := ⟨PySem.F.excBase_LookupError, kxs_LookupError, PySem.F.store_LookupError⟩
theorem bs_IndexError : Bs "IndexError" "IndexError.__init__" "IndexError.__new__" [.type "IndexError", .type "LookupError", .type "Exception", .type "BaseException", .type "object"] := ⟨PySem.F.excBase_IndexError, kxs_IndexError, store_IndexError⟩
section
open Builtin Builtin.ObjectAttr
variable {prog : Program} {w : World} {A : Around} {E : Value → Shared → Prop} {R : Result → Shared → Prop} {hp : Heap} {g : Array GenState} {d : Drawn} {t : Nat} {os : OsState} {K : Frag} {B : String} {bmB : List Value}
theorem set_new {name : Str} {v : Value} {x C t0 : Addr} {Q : Unit → Shared → Prop} (SF : StoreFacts B bmB "object.__setattr__" "object") (X : K.In hp) (hx : hp.get? x = some (excObj C t0 none .none)) (hs : findIn K (.ref C) "__setattr__" = some (some (.builtin "object.__setattr__"))) (ho : excOver K C bmB = true)
    (ht : takerIn K C name = some none) (hh : hasDictIn K C = true)
    (hq : ∀ h' tk' dx, (∀ b o, b ≠ x → hp.get? b = some o → h'.get? b = some o) → hp.get? dx = none → dx ≠ x → h'.get? x = some (excObj C t0 (some dx) .none) → h'.Ns1 dx (fun y => if y = name then some v else none) → Q () ⟨h', g, d, tk', os⟩) :
    wpAny (model prog w) A (setAttr (.ref x) name v) Q E ⟨hp, g, d, t, os⟩ := by
  refine set_plain (od := none) X ⟨hx, rfl, rfl, trivial⟩ hs ?_
  refine osa_openX (s := ⟨hp, g, d, t + 1, os⟩) (od := none) SF X ⟨hx, rfl, rfl, trivial⟩ ho ht fun b => ?_
  obtain ⟨cd, hc, hd'⟩ := any_some hh
  have hxs : x ≠ hp.objs.size := Nat.ne_of_lt (Heap.lt_size hx)
  refine wpAny_bind (wpAny_pure (wpAny_bind (instanceDict_exc (s := ⟨hp, g, d, t + 1, os⟩) hx (looks_clsIn X hc) hd' ?_)))
  show wpAny _ _ (storeInDict hp.objs.size (.str name t) name v) _ _ _
  refine HandSPX.store_in_new ?_ fun h' tk' hn' hs => ?_
  · exact ⟨_, #[], _, (Heap.get?_update_ne _ _ _ _ hxs.symm).trans (Heap.get?_push_at rfl rfl), rfl, fun e he => absurd he (by simp), fun _ => rfl⟩
  · have hx₁ : (hp.push (dictOf [] 0)).get? x = some (excObj C t0 none .none) := Heap.get?_push_of_some _ hx
    refine hq h' tk' hp.objs.size (fun b o hb ho => ?_) ?_ hxs.symm ?_ hn'
    · exact (hs.2 b (Nat.ne_of_lt (Heap.lt_size ho))).trans ((Heap.get?_update_ne _ _ _ _ hb).trans (Heap.get?_push_of_some _ ho))
    · cases z : hp.get? hp.objs.size with
      | none => rfl
      | some o => exact absurd (Heap.lt_size z) (Nat.lt_irrefl _)
    · exact (hs.2 x hxs).trans (Heap.get?_update_self _ hx₁ rfl)
theorem set_old {name : Str} {v : Value} {x C t0 dx : Addr} {m0 : Str → Option Value} {nl : List Str} {Q : Unit → Shared → Prop} (SF : StoreFacts B bmB "object.__setattr__" "object") (X : K.In hp) (hx : hp.get? x = some (excObj C t0 (some dx) .none)) (hns : hp.Ns1 dx m0) (hw : Within m0 nl) (hz : nl.length ≤ 1000)
    (hs : findIn K (.ref C) "__setattr__" = some (some (.builtin "object.__setattr__"))) (ho : excOver K C bmB = true) (ht : takerIn K C name = some none) (hh : hasDictIn K C = true)
    (hq : ∀ h' tk', (∀ b o, b ≠ dx → hp.get? b = some o → h'.get? b = some o) → h'.Ns1 dx (fun y => if y = name then some v else m0 y) → Q () ⟨h', g, d, tk', os⟩) :
    wpAny (model prog w) A (setAttr (.ref x) name v) Q E ⟨hp, g, d, t, os⟩ := by
  obtain ⟨oD, esD, epD, hoD, hdD, _⟩ := hns.count hw
  refine set_plain (od := some oD) X ⟨hx, rfl, rfl, hoD⟩ hs ?_
  refine osa_openX (s := ⟨hp, g, d, t + 1, os⟩) (od := some oD) SF X ⟨hx, rfl, rfl, hoD⟩ ho ht fun b => ?_
  obtain ⟨cd, hc, hd'⟩ := any_some hh
  refine wpAny_bind (wpAny_pure (wpAny_bind (wpAny_bind (wpAny_loadPart hx (wpAny_bind ((looks_clsIn X hc).here ?_))))))
  rw [hd']
  refine wpAny_pure (a := some dx) ?_
  refine PySem.OEX.store_in_old hns hw hz fun h' tk' hn' hs => ?_
  exact hq h' tk' (fun b o hb ho => (hs.2 b hb).trans ho) hn'
end
/-- super().__init__("X") in such an __init__ -/
theorem st_super {prog : Program} {w : World} {A : Around} {E : Value → Shared → Prop} {s : Shared} {K : Frag} {g : Heap} {B i newId : String} {bmB : List Value} {L C x t0 f cda cc : Addr} {q N file : Str} {tf : Tok} {scope : Scope} {body : List Stmt} {ar : Arg} {p0 p1 p2 p3 p4 : Pos} {j : Nat} {m mg mb : Str → Option Value} {fd : FuncData}
    {oc ccl cl : Value} {od cdd cld : Option Addr} {osl ccs csl : Array (Option Value)} {cvs : Array Value} {Q : Value → Shared → Prop} {cdC : ClassData} (BF : Bs B i newId bmB) (X₀ : K.In g) (F : Fr g L s.heap m) (glob : g.Ns mainGlobals mg) (hmg : mg "super" = none) (blt : g.Ns builtinsNs mb) (hmb : mb "super" = some (.type "super"))
    (hx : s.heap.get? x = some (excObj C t0 none .none)) (gx : g.get? x = none) (xL : x ≠ L) (lk : K.lookup f = some ⟨oc, od, .func fd, osl⟩) (hp : (fd.params.posonlyargs ++ fd.params.args).head? = some ar) (hv : m ar.arg = some (.ref x))
    (hcode : K.lookup cda = some ⟨ccl, cdd, .fields cvs, ccs⟩) (hvs : cvs[2]? = some (.str file tf)) (hfile : ((prog.main.file : Str) == file) = true) (hcell : K.lookup cc = some ⟨cl, cld, .cell (some (.ref C)), csl⟩) (hC : clsIn K C = some cdC) (hsub : mroIn K C (.ref C) = some true)
    (htp : nsIn K cStatics "thirdparty.any" = some none) (hm : ks_superIn K C C "__init__" = some (some (.builtin i))) (hB : subIn K (.ref C) (.type B) = some true) (hq : excInitIn K C bmB newId = true)
    (hks : scope.names.lookup ("super" : Str) = some .globalImplicit) (hkc : scope.names.lookup ("__class__" : Str) = some .free) (hka : scope.names.lookup ar.arg = some .local) (hk : scope.kind = .function) (htop : (prog.main.scope.names.lookup ("super" : Str)).isSome = false)
    (h : ∀ h' t1 tk', Fr g L h' m → h'.get? x = some (excObj C t1 none .none) → Q .none { s with heap := h', toks := tk' })
    {pl : Sem Bool} (he : eval (.Call (.Attribute (.Call (.Name "super" p0) [] [] p1) "__init__" p2) [.Constant (.str N) j p3] [] p4) (ksEnv q scope L f (.ref cda) cc) = (do
      let ov ← attributeBase (.Call (.Name "super" p0) [] [] p1) "__init__" (ksEnv q scope L f (.ref cda) cc) (eval (.Call (.Name "super" p0) [] [] p1) (ksEnv q scope L f (.ref cda) cc))
      standAt p2.atName
      let (f0, first) ← holding [ov] (getMethod ov "__init__" pl)
      callWith p4 f0 first (backTo p4 (starEach [.Constant (.str N) j p3] (ksEnv q scope L f (.ref cda) cc))) [])) :
    _root_.PySem.wpAt (model prog w) A (.func body (ksEnv q scope L f (.ref cda) cc)) (eval (.Call (.Attribute (.Call (.Name "super" p0) [] [] p1) "__init__" p2) [.Constant (.str N) j p3] [] p4) (ksEnv q scope L f (.ref cda) cc)) Q E s := by
  have X : K.In s.heap := X₀.keeps F.keep
  obtain ⟨hh, gg, d, t, os⟩ := s
  refine ks_wpAt_MethodCall (pl := pl) ?_ he
  obtain ⟨oD, hD1, hD2⟩ : ∃ oD, hh.get? C = some oD ∧ oD.data = .cls cdC := by
    unfold clsIn at hC
    split at hC
    · rename_i c d cd' sl ho
      cases hC
      exact ⟨_, X _ _ ho, rfl⟩
    · cases hC
  refine ks_wpAt_super_base (env := ksEnv q scope L f (.ref cda) cc) hks hkc (by decide) rfl (X _ _ lk) rfl hp rfl (X _ _ hcode) rfl hvs hfile htop ?_
  refine ks_loadName_global hk hks (loadGlobal_builtin (env := ksEnv q scope L f (.ref cda) cc) (glob.keeps F.keep) hmg (blt.keeps F.keep) hmb ⟨rfl, ?_⟩)
  refine wpAny_loadName_free hk hkc rfl ⟨_, X _ _ hcell, rfl⟩ ?_
  refine wpAny_loadName_local hk hka F.ns hv ?_
  refine ks_wpAny_isType_cls hD1 hD2 ⟨rfl, ?_⟩
  refine ks_wpAny_call_super hD1 hD2 hx rfl (fun c e => by cases e) (looks_mroIn X hsub) (fun h1 e1 k1 => ?_)
  have F1 : Fr g L h1 m := by
    obtain ⟨oL, es, ep, hL, r⟩ := F.ns
    exact ⟨⟨oL, es, ep, k1 _ _ hL, r⟩, fun b o e => k1 b o (F.keep b o e), F.above⟩
  have X1 : K.In h1 := X₀.keeps F1.keep
  have hx1 := k1 _ _ hx
  have I1 : InstAt h1 x (excObj C t0 none .none) C none := ⟨hx1, rfl, rfl, trivial⟩
  unfold ks_superIn at hm
  rw [hC] at hm
  refine kxs_getMethod BF.kx e1 (looks_opaque X1 htp) (l₀ := cdC.mro) ?_ rfl X1 hm (I1.type.andThen (looks_subIn X1 hB)) (ks_ne X1 I1 hC) (by decide) ?_
  · exact fun A Q E s k q => wpAny_bind ((looks_clsIn X1 hC) A _ E s k (wpAny_pure q))
  have F2 : Fr g L (h1.push (kxs_mw i x)) m := F1.push _
  have hg : ∀ {b : Addr}, h1.objs.size ≤ b → g.get? b = none := fun {b} hb => by
    cases z : g.get? b with
    | none => rfl
    | some o => exact absurd (Nat.lt_of_lt_of_le (Heap.lt_size (F1.keep _ _ z)) hb) (Nat.lt_irrefl _)
  have hL1 : L < h1.objs.size := by
    obtain ⟨oL, es, ep, hL, r⟩ := F1.ns
    exact Heap.lt_size hL
  have xu : x ≠ h1.objs.size := Nat.ne_of_lt (Heap.lt_size hx1)
  have N2 : News g L (h1.push (kxs_mw i x)) [(h1.objs.size, kxs_mw i x), (x, excObj C t0 none .none)] := fun p hp => by
    rcases List.mem_cons.mp hp with rfl | hp
    · exact ⟨Heap.get?_push_size _ rfl, Nat.ne_of_gt hL1, hg (Nat.le_refl _)⟩
    · rcases List.mem_cons.mp hp with rfl | hp
      · exact ⟨Heap.get?_push_of_some _ hx1, xL, gx⟩
      · cases hp
  refine kxs_callWith1 (x := x) (i := i) N2 (.head _) ?_
  refine Calls.spliced_cons (Calls.Constant_str (k := j) (pos := p3) (Calls.spliced_nil ?_))
  refine ⟨kxs_at N2 (.head _), ?_⟩
  refine kxs_call (s := ⟨h1.push (kxs_mw i x), gg, d, t + 1 + 1, os⟩) F2 X₀ N2 BF.ex hq (.head _) (nw := fun o' => [(h1.objs.size, kxs_mw i x), (x, o')]) (.tail (Ne.symm xu) (.head (fun _ h => nomatch h))) (by rw [sizeLine_eq]; simp) fun t' h' F3 N3 l3 => ?_
  exact h h' t' _ F3 (N3 (x, excObj C t' none .none) (by simp)).1
/-- what the written part says of such a class -/
structure XcK (K : Frag) (C f cda cc : Addr) (file : Str) (B i newId : String) (bmB : List Value) : Prop where
  bs : Bs B i newId bmB
  hq : excInitIn K C bmB newId = true
  ini : findIn K (.ref C) "__init__" = some (some (.ref f))
  isf : isFn K (.ref f) = true
  code : ∃ (ccl : Value) (cdd : Option Addr) (cvs : Array Value) (ccs : Array (Option Value)) (tf : Tok), K.lookup cda = some ⟨ccl, cdd, .fields cvs, ccs⟩ ∧ cvs[2]? = some (.str file tf)
  cell : ∃ (cl : Value) (cld : Option Addr) (csl : Array (Option Value)), K.lookup cc = some ⟨cl, cld, .cell (some (.ref C)), csl⟩
  cls : ∃ cd, clsIn K C = some cd
  sub : mroIn K C (.ref C) = some true
  tp : nsIn K cStatics "thirdparty.any" = some none
  sup : ks_superIn K C C "__init__" = some (some (.builtin i))
  base : subIn K (.ref C) (.type B) = some true
  sa : findIn K (.ref C) "__setattr__" = some (some (.builtin "object.__setattr__"))
  ov : excOver K C bmB = true
  hd : hasDictIn K C = true
/-- the heap below: what the law's base tells -/
structure Gr (K : Frag) (mg : Str → Option Value) (g : Heap) : Prop where
  kin : K.In g
  glob : g.Ns mainGlobals mg
  blt : ∃ mb, g.Ns builtinsNs mb ∧ mb "super" = some (.type "super")
  nolimit : g.NoLimit
/-- the text of such a def -/
structure SupS (q N : Str) (scope : Scope) (e : Expr) (p4 : Pos) (p5 : Pos) : Prop where
  ex : ∃ p0 p1 p2 p3 j, e = .Call (.Attribute (.Call (.Name "super" p0) [] [] p1) "__init__" p2) [.Constant (.str N) j p3] [] p4 ∧
    ∃ pl : Sem Bool, ∀ (L f cda cc : Addr), eval (.Call (.Attribute (.Call (.Name "super" p0) [] [] p1) "__init__" p2) [.Constant (.str N) j p3] [] p4) (ksEnv q scope L f (.ref cda) cc) = (do
      let ov ← attributeBase (.Call (.Name "super" p0) [] [] p1) "__init__" (ksEnv q scope L f (.ref cda) cc) (eval (.Call (.Name "super" p0) [] [] p1) (ksEnv q scope L f (.ref cda) cc))
      standAt p2.atName
      let (f0, first) ← holding [ov] (getMethod ov "__init__" pl)
      callWith p4 f0 first (backTo p4 (starEach [.Constant (.str N) j p3] (ksEnv q scope L f (.ref cda) cc))) [])
  hi : ∀ (L f cda cc : Addr), interactive (ksEnv q scope L f (.ref cda) cc) = false
  hs : ∀ (L f cda cc : Addr), swapsWith e none p5.line (ksEnv q scope L f (.ref cda) cc) = pure false
structure SetS (q : Str) (scope : Scope) (e o : Expr) (fld : Str) (p p' : Pos) : Prop where
  hs : ∀ (L f cda cc : Addr), swapsWith e (some (.Attribute o fld p')) p.line (ksEnv q scope L f (.ref cda) cc) = pure false
theorem frKept {g h h' : Heap} {L x : Addr} {m : Str → Option Value} (F : Fr g L h m) (xL : L ≠ x) (gx : g.get? x = none) (k : ∀ b o, b ≠ x → h.get? b = some o → h'.get? b = some o) : Fr g L h' m := by
  obtain ⟨oL, es, ep, hL, r⟩ := F.ns
  exact ⟨⟨oL, es, ep, k _ _ xL hL, r⟩, fun b o e => k b o (fun z => by rw [z, gx] at e; cases e) (F.keep b o e), F.above⟩
theorem look_fst {a b : Str} {v u : Value} (h : b ≠ a) : List.lookup a ([(a, v), (b, u)].reverse) = some v := by
  have e : (a == b) = false := by simpa using Ne.symm h
  show List.lookup a [(b, u), (a, v)] = some v
  simp [List.lookup, e]
theorem look_snd {a b : Str} {v u : Value} : List.lookup b ([(a, v), (b, u)].reverse) = some u := by
  show List.lookup b [(b, u), (a, v)] = some u
  simp [List.lookup]
section
variable {prog : Program} {w : World} {A : Around} {R : Result → Shared → Prop} {s : Shared} {K : Frag} {g : Heap} {B i newId : String} {bmB : List Value} {C x t0 f cda cc : Addr} {q N N2 fld p : Str} {scope : Scope} {mg : Str → Option Value} {params : Arguments} {body : List Stmt}
  {dV kV doc pm ct oc : Value} {an od : Option Addr} {osl : Array (Option Value)} {u : Value}
theorem init1 (T : XcK K C f cda cc prog.main.file B i newId bmB) (G : Gr K mg g) (hmg : mg "super" = none) (htop : (prog.main.scope.names.lookup ("super" : Str)).isSome = false)
    (lk : K.lookup f = some ⟨oc, od, .func (ksFn "__init__" q params body scope dV kV doc pm an (.ref cda) ct cc), osl⟩) (hcd : codeIn K (.ref cda) q = true) (tc : takerIn K C "code" = some none) (tf : takerIn K C fld = some none)
    (keep : ∀ b o, g.get? b = some o → s.heap.get? b = some o) (hgs : g.objs.size ≤ s.heap.objs.size) (hx : s.heap.get? x = some (excObj C t0 none .none)) (gx : g.get? x = none) (hroom : A.depth < recursionLimit)
    {e0 : Expr} {j1 : Nat} {p4 p5 a1 a2 a3 a4 b1 b2 b3 b4 : Pos} (hb : body = [.Expr e0 p5, .Assign [.Attribute (.Name "self" a1) "code" a2] (.Constant (.str N2) j1 a3) a4, .Assign [.Attribute (.Name "self" b1) fld b2] (.Name p b3) b4])
    (S0 : SupS q N scope e0 p4 p5) (S1 : SetS q scope (.Constant (.str N2) j1 a3) (.Name "self" a1) "code" a4 a2) (S2 : SetS q scope (.Name p b3) (.Name "self" b1) fld b4 b2)
    (bd : BindsTo s (ksFn "__init__" q params body scope dV kV doc pm an (.ref cda) ct cc) ⟨[.ref x, u], []⟩ [(("self" : Str), Value.ref x), (p, u)]) (har : ∃ ar, (params.posonlyargs ++ params.args).head? = some ar ∧ ar.arg = "self")
    (hks : scope.names.lookup ("super" : Str) = some .globalImplicit) (hkc : scope.names.lookup ("__class__" : Str) = some .free) (hka : scope.names.lookup ("self" : Str) = some .local) (hkp : scope.names.lookup p = some .local) (hk : scope.kind = .function)
    (hco : scope.isCoroutine = false) (hgen : scope.isGenerator = false) (hnc : ∀ x ∈ scope.names, x.2 ≠ .cell) (hps : p ≠ "self") (hpd : (p == ("__debug__" : Str)) = false)
    (hq : ∀ h' t1 dx tk tk2, (∀ b o, g.get? b = some o → h'.get? b = some o) → g.get? dx = none → dx ≠ x → h'.get? x = some (excObj C t1 (some dx) .none) → h'.Ns1 dx (fun y => if y = fld then some u else if y = "code" then some (.str N2 tk2) else none) →
      R (.ok (.ret .none)) { s with heap := h', toks := tk }) : codeAny (model prog w) A (.call (.ref f) ⟨[.ref x, u], []⟩) R s := by
  subst hb
  have X : K.In s.heap := G.kin.keeps keep
  obtain ⟨mb, blt, hmb⟩ := G.blt
  obtain ⟨ar, har, eself⟩ := har
  obtain ⟨ccl, cdd, cvs, ccs, tf0, hcode, hvs⟩ := T.code
  obtain ⟨cl, cld, csl, hcell⟩ := T.cell
  obtain ⟨cdC, hC⟩ := T.cls
  refine ks_codeAny_call_defAt hroom (X _ _ lk) rfl (G.nolimit.keeps keep) (codeRec_of X hcd) rfl bd hnc (fun y hy => ?_) (fun h1 hns k1 => ?_) hco hgen hk
  · rcases List.mem_cons.mp hy with rfl | hy
    · exact hka
    · rcases List.mem_cons.mp hy with rfl | hy
      · exact hkp
      · cases hy
  have gsz : g.objs.size ≤ s.heap.objs.size := hgs
  have hxL : x ≠ s.heap.objs.size := Nat.ne_of_lt (Heap.lt_size hx)
  have hx1 := k1 _ _ hx
  generalize s.heap.objs.size = L at hns gsz hxL ⊢
  have F1 : Fr g L h1 (fun y => [(("self" : Str), Value.ref x), (p, u)].reverse.lookup y) := ⟨hns, fun b o e => k1 b o (keep b o e), gsz⟩
  have mself : List.lookup ("self" : Str) ([(("self" : Str), Value.ref x), (p, u)].reverse) = some (.ref x) := look_fst hps
  have mp : List.lookup p ([(("self" : Str), Value.ref x), (p, u)].reverse) = some u := look_snd
  obtain ⟨p0, p1, p2, p3, j, rfl, pl, he⟩ := S0.ex
  obtain ⟨hh, gg, d, tk0, os⟩ := s
  refine ks_wpAt_execs_cons (ks_wpAt_Expr_any (st_super (ar := ar) T.bs G.kin F1 G.glob hmg blt hmb hx1 gx hxL lk har (by rw [eself]; exact mself) hcode hvs (by simp) hcell hC T.sub T.tp T.sup T.base T.hq hks hkc (by rw [eself]; exact hka) hk htop (fun h2 t1 tk1 F2 hx2 => ?_) (he _ _ _ _)) (S0.hi _ _ _ _) (S0.hs _ _ _ _))
  refine ks_wpAt_execs_cons (ks_wpAt_Assign_Attr (wpAt_of_wpAny (Calls.Constant_str ?_)) (S1.hs _ _ _ _))
  refine wpAny_Name (wpAny_loadName_local hk hka F2.ns mself ?_) (by decide)
  refine set_new T.bs.st (G.kin.keeps F2.keep) hx2 T.sa T.ov tc T.hd fun h3 tk3 dx k3 dn dne hx3 n3 => ?_
  have F3 := frKept F2 (Ne.symm hxL) gx k3
  have gd : g.get? dx = none := by
    cases z : g.get? dx with
    | none => rfl
    | some o => rw [F2.keep _ _ z] at dn; cases dn
  have dL : L ≠ dx := fun z => by
    obtain ⟨oL, es, ep, hL, r⟩ := F2.ns
    rw [z] at hL
    rw [hL] at dn
    cases dn
  refine ks_wpAt_execs_cons (ks_wpAt_Assign_Attr (wpAt_of_wpAny (wpAny_Name (wpAny_loadName_local hk hkp F3.ns mp ?_) hpd)) (S2.hs _ _ _ _))
  refine wpAny_Name (wpAny_loadName_local hk hka F3.ns mself ?_) (by decide)
  refine set_old (nl := ["code"]) T.bs.st (G.kin.keeps F3.keep) hx3 n3 (fun y hy => ?_) (by simp) T.sa T.ov tf T.hd fun h4 tk4 k4 n4 => ?_
  · by_cases hc : y = ("code" : Str)
    · rw [hc]; exact List.mem_singleton.mpr rfl
    · exact absurd (if_neg hc) hy
  have F4 := frKept F3 dL gd k4
  refine wpAt_of_wpAny (wpAny_execs_nil ?_)
  exact hq h4 t1 dx tk4 _ F4.keep gd dne (k4 _ _ (Ne.symm dne) hx3) n4
theorem init0 (T : XcK K C f cda cc prog.main.file B i newId bmB) (G : Gr K mg g) (hmg : mg "super" = none) (htop : (prog.main.scope.names.lookup ("super" : Str)).isSome = false)
    (lk : K.lookup f = some ⟨oc, od, .func (ksFn "__init__" q params body scope dV kV doc pm an (.ref cda) ct cc), osl⟩) (hcd : codeIn K (.ref cda) q = true) (tc : takerIn K C "code" = some none)
    (keep : ∀ b o, g.get? b = some o → s.heap.get? b = some o) (hgs : g.objs.size ≤ s.heap.objs.size) (hx : s.heap.get? x = some (excObj C t0 none .none)) (gx : g.get? x = none) (hroom : A.depth < recursionLimit)
    {e0 : Expr} {j1 : Nat} {p4 p5 a1 a2 a3 a4 : Pos} (hb : body = [.Expr e0 p5, .Assign [.Attribute (.Name "self" a1) "code" a2] (.Constant (.str N2) j1 a3) a4])
    (S0 : SupS q N scope e0 p4 p5) (S1 : SetS q scope (.Constant (.str N2) j1 a3) (.Name "self" a1) "code" a4 a2)
    (bd : BindsTo s (ksFn "__init__" q params body scope dV kV doc pm an (.ref cda) ct cc) ⟨[.ref x], []⟩ [(("self" : Str), Value.ref x)]) (har : ∃ ar, (params.posonlyargs ++ params.args).head? = some ar ∧ ar.arg = "self")
    (hks : scope.names.lookup ("super" : Str) = some .globalImplicit) (hkc : scope.names.lookup ("__class__" : Str) = some .free) (hka : scope.names.lookup ("self" : Str) = some .local) (hk : scope.kind = .function)
    (hco : scope.isCoroutine = false) (hgen : scope.isGenerator = false) (hnc : ∀ x ∈ scope.names, x.2 ≠ .cell)
    (hq : ∀ h' t1 dx tk tk2, (∀ b o, g.get? b = some o → h'.get? b = some o) → g.get? dx = none → dx ≠ x → h'.get? x = some (excObj C t1 (some dx) .none) → h'.Ns1 dx (fun y => if y = "code" then some (.str N2 tk2) else none) →
      R (.ok (.ret .none)) { s with heap := h', toks := tk }) : codeAny (model prog w) A (.call (.ref f) ⟨[.ref x], []⟩) R s := by
  subst hb
  have X : K.In s.heap := G.kin.keeps keep
  obtain ⟨mb, blt, hmb⟩ := G.blt
  obtain ⟨ar, har, eself⟩ := har
  obtain ⟨ccl, cdd, cvs, ccs, tf0, hcode, hvs⟩ := T.code
  obtain ⟨cl, cld, csl, hcell⟩ := T.cell
  obtain ⟨cdC, hC⟩ := T.cls
  refine ks_codeAny_call_defAt hroom (X _ _ lk) rfl (G.nolimit.keeps keep) (codeRec_of X hcd) rfl bd hnc (fun y hy => ?_) (fun h1 hns k1 => ?_) hco hgen hk
  · rcases List.mem_cons.mp hy with rfl | hy
    · exact hka
    · cases hy
  have gsz : g.objs.size ≤ s.heap.objs.size := hgs
  have hxL : x ≠ s.heap.objs.size := Nat.ne_of_lt (Heap.lt_size hx)
  have hx1 := k1 _ _ hx
  generalize s.heap.objs.size = L at hns gsz hxL ⊢
  have F1 : Fr g L h1 (fun y => [(("self" : Str), Value.ref x)].reverse.lookup y) := ⟨hns, fun b o e => k1 b o (keep b o e), gsz⟩
  have mself : List.lookup ("self" : Str) ([(("self" : Str), Value.ref x)].reverse) = some (.ref x) := by
    show List.lookup ("self" : Str) [(("self" : Str), Value.ref x)] = _
    simp [List.lookup]
  obtain ⟨p0, p1, p2, p3, j, rfl, pl, he⟩ := S0.ex
  obtain ⟨hh, gg, d, tk0, os⟩ := s
  refine ks_wpAt_execs_cons (ks_wpAt_Expr_any (st_super (ar := ar) T.bs G.kin F1 G.glob hmg blt hmb hx1 gx hxL lk har (by rw [eself]; exact mself) hcode hvs (by simp) hcell hC T.sub T.tp T.sup T.base T.hq hks hkc (by rw [eself]; exact hka) hk htop (fun h2 t1 tk1 F2 hx2 => ?_) (he _ _ _ _)) (S0.hi _ _ _ _) (S0.hs _ _ _ _))
  refine ks_wpAt_execs_cons (ks_wpAt_Assign_Attr (wpAt_of_wpAny (Calls.Constant_str ?_)) (S1.hs _ _ _ _))
  refine wpAny_Name (wpAny_loadName_local hk hka F2.ns mself ?_) (by decide)
  refine set_new T.bs.st (G.kin.keeps F2.keep) hx2 T.sa T.ov tc T.hd fun h3 tk3 dx k3 dn dne hx3 n3 => ?_
  have F3 := frKept F2 (Ne.symm hxL) gx k3
  have gd : g.get? dx = none := by
    cases z : g.get? dx with
    | none => rfl
    | some o => rw [F2.keep _ _ z] at dn; cases dn
  have dL : L ≠ dx := fun z => by
    obtain ⟨oL, es, ep, hL, r⟩ := F2.ns
    rw [z] at hL
    rw [hL] at dn
    cases dn
  refine wpAt_of_wpAny (wpAny_execs_nil ?_)
  exact hq h3 t1 dx tk3 _ F3.keep gd dne hx3 n3
end
end Exi
end Dl
namespace Dl
open PySem PySem.Spec PyProof.Rows L2
namespace Exi
open PySem.Calls PySem.W
/-- what making one does to the heap -/
def fldsOf (fl : List Str) (N : Str) (us : List Value) (tk : Tok) : Str → Option Value := fun y => match fl, us with
  | [f], [u] => if y = f then some u else if y = ("code" : Str) then some (.str N tk) else none
  | _, _ => if y = ("code" : Str) then some (.str N tk) else none
def XcM (P : Program) (K : Frag) (mg : Str → Option Value) (C : Addr) (fl : List Str) (N : Str) : Prop :=
  ∀ (w : World) (A : Around) (s : Shared) (us : List Value) (Q : Value → Shared → Prop) (E : Value → Shared → Prop), us.length = fl.length → Gr K mg s.heap → (A.under (.builtin "type.__call__" ⟨.ref C :: us, []⟩)).depth < recursionLimit →
    (∀ a h' t1 dx tk tk2, (∀ b o, s.heap.get? b = some o → h'.get? b = some o) → s.heap.get? a = none → s.heap.get? dx = none → dx ≠ a → h'.get? a = some (excObj C t1 (some dx) .none) → h'.Ns1 dx (fldsOf fl N us tk2) → Q (.ref a) { s with heap := h', toks := tk }) →
    wpAny (model P w) A (call (.ref C) us) Q E s
section
variable {prog : Program} {K : Frag} {B i newId : String} {bmB : List Value} {C f cda cc : Addr} {q N N2 fld p : Str} {scope : Scope} {mg : Str → Option Value} {params : Arguments} {body : List Stmt}
  {dV kV doc pm ct oc : Value} {an od : Option Addr} {osl : Array (Option Value)}
theorem xcM_of {fl : List Str} (T : XcK K C f cda cc prog.main.file B i newId bmB)
    (run : ∀ (w : World) (A : Around) (R : Result → Shared → Prop) (s : Shared) (g : Heap) (x t0 : Addr) (us : List Value), us.length = fl.length → Gr K mg g → (∀ b o, g.get? b = some o → s.heap.get? b = some o) → g.objs.size ≤ s.heap.objs.size → s.heap.get? x = some (excObj C t0 none .none) → g.get? x = none → A.depth < recursionLimit →
      (∀ h' t1 dx tk tk2, (∀ b o, g.get? b = some o → h'.get? b = some o) → g.get? dx = none → dx ≠ x → h'.get? x = some (excObj C t1 (some dx) .none) → h'.Ns1 dx (fldsOf fl N us tk2) → R (.ok (.ret .none)) { s with heap := h', toks := tk }) → codeAny (model prog w) A (.call (.ref f) ⟨.ref x :: us, []⟩) R s)
    (hfl : fl.length ≤ 1) : XcM prog K mg C fl N := by
  intro w A s us Q E hl G hr hq
  obtain ⟨nm, N', qn, bs, bm, hdct, sn, sub, ab, col, dd, k0, k1, k2, k3, k5, hC, hT⟩ := excInit_of G.kin T.hq
  obtain ⟨oI, hoI, hcI⟩ : ∃ oI, s.heap.get? f = some oI ∧ oI.cls = .type "function" := by
    obtain ⟨o, ho, hc⟩ := Option.map_eq_some_iff.mp (show (K.lookup f).map (·.cls) = some (.type "function") from beq_iff_eq.mp T.isf)
    exact ⟨o, G.kin _ _ ho, hc⟩
  have hi' : Looks (model prog w) s.heap (typeLookup (.ref C) "__init__") (some (.ref f)) := looks_findIn G.kin T.ini
  obtain ⟨hh, g, d, tk, os⟩ := s
  have no : ∀ {b : Addr}, hh.objs.size ≤ b → hh.get? b = none := fun {b} hb => by
    cases z : hh.get? b with
    | none => rfl
    | some o => exact absurd (Nat.lt_of_lt_of_le (Heap.lt_size z) hb) (Nat.lt_irrefl _)
  refine wpAny_call (PX.call_own T.bs.ex hT hC hi' (fun self => exc_bind hoI hcI self) (by rw [sizeLine_eq]; omega) ?_)
  refine run w _ _ _ hh (hh.objs.size + 1) hh.objs.size us hl G (fun b o e => Heap.get?_push_of_some _ (Heap.get?_push_of_some _ e)) (by show _ ≤ ((hh.push _).push _).objs.size; rw [Heap.size_push, Heap.size_push]; omega) (by heap_get) (no (Nat.le_succ _)) hr ?_
  intro h' t1 dx tk' tk2 k dn dne hx n
  exact ⟨rfl, hq _ h' t1 dx tk' tk2 k (no (Nat.le_succ _)) dn dne hx n⟩
end
/-- the fields that such a one has -/
def fsOf (fl : List Str) (N : Str) (vs : List V) : List (Str × V) := fl.zip vs ++ [(("code" : Str), .str N)]
theorem relO_fs {fl : List Str} {N : Str} {vs : List V} {us : List Value} {tk : Tok} (hl : us.length = fl.length) (hfl : fl.length ≤ 1) (r : Vals vs us) (y : Str) : RelO ((fsOf fl N vs).lookup y) (fldsOf fl N us tk y) := by
  have base : RelO ([(("code" : Str), V.str N)].lookup y) (if y = ("code" : Str) then some (.str N tk) else none) := by
    rw [L2.lookup_put]
    by_cases h : y = ("code" : Str)
    · rw [if_pos h, if_pos h]; exact ⟨_, rfl⟩
    · rw [if_neg h, if_neg h]; exact True.intro
  match fl, us, vs, r with
  | [], [], [], .nil => exact base
  | [f], [u], [v], .cons rv .nil =>
    show RelO (((f, v) :: [(("code" : Str), V.str N)]).lookup y) (if y = f then some u else _)
    rw [L2.lookup_put]
    by_cases h : y = f
    · rw [if_pos h, if_pos h]; exact rv
    · rw [if_neg h, if_neg h]; exact base
  | _ :: _ :: _, _, _, _ => simp at hfl
section
variable {X : Cx} {pins : List (Addr × Obj)} {σ : L2.St} {H : Hp} {s : Shared}
theorem gr_of (I : Inv X pins σ H s) : Gr X.K X.mg s.heap := by
  obtain ⟨mb, h1, h2⟩ := I.mod.blt
  exact ⟨I.kIn, I.mod.glob.keeps I.bk, ⟨mb, h1.keeps I.bk, (h2 _ (by decide +kernel)).trans PyProof.Rows.Boot.«super»⟩, I.nolimit⟩
theorem made {h' : Heap} {a dx C t1 : Addr} {tk : Nat} {mA : Str → Option Value} {fs : List (Str × V)} (I : Inv X pins σ H s) (k : ∀ b o, s.heap.get? b = some o → h'.get? b = some o) (an : s.heap.get? a = none) (dn : s.heap.get? dx = none) (dne : dx ≠ a)
    (ha : h'.get? a = some (excObj C t1 (some dx) .none)) (n : h'.Ns1 dx mA) (r : ∀ f, RelO (fs.lookup f) (mA f)) :
    H dx = none ∧ (upd H dx (.xd fs)) a = none ∧ ∃ G, Inv X pins σ (upd H dx (.xd fs)) { s with heap := G, toks := tk } ∧ (∀ b o, G.get? b = some o → h'.get? b = some o) ∧ G.get? a = none := by
  obtain ⟨G, g1, g2⟩ := L2.restrict h' fun b => decide (b ≠ a)
  have gk : ∀ b, b ≠ a → G.get? b = h'.get? b := fun b hb => g1 b (decide_eq_true hb)
  have ge : G.get? a = none := g2 a (by simp)
  have hd := I.hok.gone dn
  refine ⟨hd, by rw [upd_ne (Ne.symm dne)]; exact I.hok.gone an, G, I.laidN (fun b u e => (gk b fun z => by rw [z, an] at e; cases e).trans (k b u e)) dn hd ?_, fun b o e => ?_, ge⟩
  · exact ⟨mA, n.at fun o y => (gk dx dne).trans y, r⟩
  · by_cases hb : b = a
    · rw [hb, ge] at e; cases e
    · exact (gk b hb).symm.trans e
end
/-- what is wanted of a class of exceptions -/
structure XcC (P : Program) (K : Frag) (mg : Str → Option Value) (C : Addr) (fl : List Str) (N : Str) : Prop where
  mak : XcM P K mg C fl N
  fl1 : fl.length ≤ 1
  exC : subIn K (.ref C) (.type "BaseException") = some true
  tyC : typeIn K (.ref C) = some (.type "type")
  kC : keepIn K (.ref C) = true
section
variable {X : Cx} {x : Str} {C : Addr} {fl : List Str} {N : Str} {e : Expr} {es : List Expr} {ta : TA} {p pos : Pos}
theorem run_xc {pins : List (Addr × Obj)} {σ : L2.St} {H : Hp} {s : Shared} {Q : XK} {us : List Value} {vs : List V} {E : Value → Shared → Prop} (D : XcC X.prog X.K X.mg C fl N) (hr : Room 1 X.A) (I : Inv X pins σ H s) (r : Vals vs us) (hl : vs.length = fl.length)
    (hq : ∀ dx, H dx = none → Q (.ref C) (some dx) (upd H dx (.xd (fsOf fl N vs)))) : wpAny (model X.prog X.w) X.A (call (.ref C) us) (MkP X pins σ Q) E s := by
  have hu : us.length = fl.length := by rw [← r.length]; exact hl
  refine D.mak X.w X.A s us _ _ hu (gr_of I) (hr.make C us []).depth fun a h' t1 dx tk tk2 k an dn dne ha n => ?_
  obtain ⟨hd, na, G, J, kG, ge⟩ := made (tk := tk) I k an dn dne ha n (relO_fs hu D.fl1 r)
  exact ⟨a, _, _, { s with heap := G, toks := tk }, _, .ref C, some dx, rfl, J, kG, ge, ha, ⟨rfl, rfl⟩, rfl, rfl, na, rfl, I.bare, raises_own D.exC D.tyC, hq dx hd⟩
theorem pmk_xc (D : XcC X.prog X.K X.mg C fl N) (hr : Room 1 X.A) (hg : Gl X x) (hm : X.mg x = some (.ref C)) (ha : PA X (e :: es) ta) (hdb : (x == ("__debug__" : Str)) = false := by decide)
    (he : starEach (e :: es) X.env = (false, eval e X.env) :: starEach es X.env := by rfl) (hpl : (backTo pos (starEach es X.env)).any (·.1) = false := by rfl) :
    PMk X (.Call (.Name x p) (e :: es) [] pos) (fun σ H Q => ta σ H fun vs H1 => vs.length = fl.length ∧ ∀ dx, H1 dx = none → Q (.ref C) (some dx) (upd H1 dx (.xd (fsOf fl N vs)))) := by
  intro pins s σ H Q I h
  refine wpAny_Call_Name_kw (ld_glob I hg hm ?_ hdb)
  refine PySem.W.callWith_K (h₀ := X.base) I.ok.mod.kin D.kC (thn (ha.run pos pins s σ H _ I h) fun us s1 ⟨vs, H1, I1, r1, hl, q1⟩ => ⟨I1.kIn, ?_⟩) he hpl
  exact run_xc D hr I1 r1 hl q1
theorem pmk_xc0 (D : XcC X.prog X.K X.mg C fl N) (hr : Room 1 X.A) (hg : Gl X x) (hm : X.mg x = some (.ref C)) (hdb : (x == ("__debug__" : Str)) = false := by decide) :
    PMk X (.Call (.Name x p) [] [] pos) (fun σ H Q => fl = [] ∧ ∀ dx, H dx = none → Q (.ref C) (some dx) (upd H dx (.xd (fsOf fl N [])))) := by
  intro pins s σ H Q I ⟨hl, h⟩
  refine wpAny_Call_Name_kw (ld_glob I hg hm ?_ hdb)
  refine PySem.W.callWith_K0 I.kIn D.kC ?_
  exact run_xc (us := []) D hr I .nil (by rw [hl]; rfl) h
end
end Exi
structure XcD (P : Program) (K : PySem.W.Frag) (mg : Str → Option Value) (c : Str) (fl : List Str) (N : List Nat) : Prop where
  cl : Exi.XcC P K mg (He.ga K c) fl (mkS N)
  gl : mg c = some (.ref (He.ga K c))
section
variable [TheW] {X : Cx} {n : En} {c : Str} {fl : List Str} {N : List Nat} {e : Expr} {es : List Expr} {wa : DA} {p pos pos2 : Pos}
structure raiP (c : Str) (fl : List Str) (N : List Nat) (ws : List W) (st : Dst) (E : DX) : Prop where
  ex : ∃ ds, ws = ds.map W.d ∧ ds.length = fl.length ∧ E ⟨c, fl ++ [("code" : Str)], ds ++ [.str N]⟩ st
def wRaise (c : Str) (fl : List Str) (N : List Nat) (wa : DA) : DS := fun D st => wa st (fun ws st1 => raiP c fl N ws st1 D.ex) D.ex
theorem excRep_of {K : PySem.W.Frag} {F : Hp} {ρ : List Addr} {H : Hp} {ds : List D} {vs : List V} {dx : Addr} (hl : ds.length = fl.length) (r : RepL K F ds vs) (hF : F dx = some (.xd (Exi.fsOf fl (mkS N) vs))) : ExRep K F ⟨c, fl ++ [("code" : Str)], ds ++ [.str N]⟩ (.ref (He.ga K c)) (some dx) H := by
  have hv : vs.length = fl.length := by rw [← r.len]; exact hl
  refine ⟨rfl, dx, _, rfl, hF, ?_, ?_⟩
  · unfold Exi.fsOf
    rw [List.map_append]
    have := List.map_fst_zip (l₁ := fl) (l₂ := vs) (by omega)
    rw [this]
    rfl
  · unfold Exi.fsOf
    rw [List.map_append]
    have := List.map_snd_zip (l₁ := fl) (l₂ := vs) (by omega)
    rw [this]
    exact r.app (RepL.one rfl)
theorem psd_raise (D : XcD X.prog X.K X.mg c fl N) (hr : Room 1 X.A) (hc : X.calm = true) (hg : Gl X c) (ha : PAD X n (e :: es) wa) (hdb : (c == ("__debug__" : Str)) = false := by decide)
    (he : starEach (e :: es) X.env = (false, eval e X.env) :: starEach es X.env := by rfl) (hpl : (backTo pos (starEach es X.env)).any (·.1) = false := by rfl) :
    PSD X n (.Raise (some (.Call (.Name c p) (e :: es) [] pos)) none pos2) (wRaise c fl N wa) := by
  refine ⟨fun pins s σ H F ρ st DD I R tk hw => ?_⟩
  have z := (ps_raise (pos := pos2) hc tk (Exi.pmk_xc (p := p) (pos := pos) D.cl hr hg D.gl ha.pa hdb he hpl)).run pins s σ H (qD X n F ρ H DD) I ?_
  · exact thn z fun f s1 q => SP.spd q
  refine tA.use R tk hw fun vs ws st1 H1 F1 ρ1 p1 R1 rw1 h1 => ?_
  obtain ⟨ds, rfl, hl, h1⟩ := h1.ex
  have rd := rw1.ofD
  refine ⟨by rw [← rd.len]; exact hl, fun dx hdx => ?_⟩
  have R2 := R1.data (o := .xd (Exi.fsOf fl (mkS N) vs)) hdx
  exact ⟨st1, _, ρ1, _, R2, excRep_of (ρ := ρ1) hl (RepL.sub (Post.data R1.ok.sub hdx (ρ := ρ1)).le _ _ rd) upd_same, h1⟩
theorem psd_raise0 (D : XcD X.prog X.K X.mg c [] N) (hr : Room 1 X.A) (hc : X.calm = true) (hg : Gl X c) (hdb : (c == ("__debug__" : Str)) = false := by decide) :
    PSD X n (.Raise (some (.Call (.Name c p) [] [] pos)) none pos2) (wRaise c [] N wNil) := by
  refine ⟨fun pins s σ H F ρ st DD I R tk hw => ?_⟩
  have z := (ps_raise (pos := pos2) hc tk (Exi.pmk_xc0 (p := p) (pos := pos) D.cl hr hg D.gl hdb)).run pins s σ H (qD X n F ρ H DD) I ?_
  · exact thn z fun f s1 q => SP.spd q
  refine ⟨rfl, fun dx hdx => ?_⟩
  have hw : raiP c [] N [] st DD.ex := hw
  obtain ⟨ds, e1, hl, h1⟩ := hw.ex
  obtain rfl : ds = [] := List.eq_nil_of_length_eq_zero hl
  have R2 := R.data (o := .xd (Exi.fsOf [] (mkS N) [])) hdx
  exact ⟨st, _, ρ, _, R2, excRep_of (ρ := ρ) hl RepL.nil upd_same, h1⟩
end
end Dl
namespace Dl
open PySem PySem.Spec PyProof.Rows L2
namespace Exi
open PySem.Calls PySem.W
def kB : Nat → String × String × String × List Value
  | 0 => ("ValueError", "ValueError.__init__", "ValueError.__new__", [.type "ValueError", .type "Exception", .type "BaseException", .type "object"])
  | 1 => ("LookupError", "LookupError.__init__", "LookupError.__new__", [.type "LookupError", .type "Exception", .type "BaseException", .type "object"])
  | _ => ("IndexError", "IndexError.__init__", "IndexError.__new__", [.type "IndexError", .type "LookupError", .type "Exception", .type "BaseException", .type "object"])
theorem kB_ok : ∀ k, Bs (kB k).1 (kB k).2.1 (kB k).2.2.1 (kB k).2.2.2
  | 0 => bs_ValueError
  | 1 => bs_LookupError
  | _ + 2 => bs_IndexError
def fdA (K : Frag) (f : Addr) : Option FuncData := match K.lookup f with
  | some ⟨_, _, .func fd, _⟩ => some fd
  | _ => none
def cdA (K : Frag) (f : Addr) : Addr := match fdA K f with
  | some fd => (match fd.code with | .ref c => c | _ => 0)
  | none => 0
def ccA (K : Frag) (f : Addr) : Addr := match fdA K f with
  | some fd => (match fd.closure with | [(_, c)] => c | _ => 0)
  | none => 0
def isRef : Value → Bool
  | .ref _ => true
  | _ => false
def cdOk (K : Frag) (qual : Str) (fd : FuncData) : Bool := isRef fd.code && (codeIn K fd.code qual && (He.dflB K fd.defaults [] && He.kwdB K fd.kwdefaults []))
/-- the checks -/
def xcB (K : Frag) (c qual : Str) (k : Nat) (file : Str) (fl : List Str) : Bool :=
  let C := He.ga K c
  let f := He.ma K C "__init__"
  [excInitIn K C (kB k).2.2.2 (kB k).2.2.1, He.eqO (findIn K (.ref C) "__init__") (some (some (.ref f))), isFn K (.ref f),
    (match K.lookup (cdA K f) with | some ⟨_, _, .fields cvs, _⟩ => (match (cvs[2]? : Option Value) with | some (.str x _) => decide (x = file) | _ => false) | _ => false),
    (match K.lookup (ccA K f) with | some ⟨_, _, .cell (some (.ref C')), _⟩ => decide (C' = C) | _ => false),
    (clsIn K C).isSome, decide (mroIn K C (.ref C) = some true), He.eqO (nsIn K cStatics "thirdparty.any") (some none), He.eqO (ks_superIn K C C "__init__") (some (some (.builtin (kB k).2.1))),
    decide (subIn K (.ref C) (.type (kB k).1) = some true), He.eqO (findIn K (.ref C) "__setattr__") (some (some (.builtin "object.__setattr__"))), excOver K C (kB k).2.2.2, hasDictIn K C,
    (fdA K f).any (cdOk K qual),
    (("code" : Str) :: fl).all (fun y => He.eqO (takerIn K C y) (some none)),
    decide (subIn K (.ref C) (.type "BaseException") = some true), decide (typeIn K (.ref C) = some (.type "type")), keepIn K (.ref C)].all id
theorem xcK_of {K : Frag} {c qual file : Str} {k : Nat} {fl : List Str} (h : xcB K c qual k file fl = true) : XcK K (He.ga K c) (He.ma K (He.ga K c) "__init__") (cdA K (He.ma K (He.ga K c) "__init__")) (ccA K (He.ma K (He.ga K c) "__init__")) file (kB k).1 (kB k).2.1 (kB k).2.2.1 (kB k).2.2.2 := by
  have at_ := fun (i : Nat) (b : Bool) e => List.all_eq_true.mp h b (List.mem_of_getElem? (i := i) e)
  refine ⟨kB_ok k, at_ 0 _ rfl, He.eqO_ok (at_ 1 _ rfl), at_ 2 _ rfl, ?_, ?_, ?_, of_decide_eq_true (at_ 6 _ rfl), He.eqO_ok (at_ 7 _ rfl), He.eqO_ok (at_ 8 _ rfl), of_decide_eq_true (at_ 9 _ rfl), He.eqO_ok (at_ 10 _ rfl), at_ 11 _ rfl, at_ 12 _ rfl⟩
  · have z := at_ 3 _ rfl
    revert z
    show (match K.lookup (cdA K (He.ma K (He.ga K c) "__init__")) with | some ⟨_, _, .fields cvs, _⟩ => (match (cvs[2]? : Option Value) with | some (.str x _) => decide (x = file) | _ => false) | _ => false) = true → _
    split
    · rename_i q1 q2 cvs q3 q4
      split
      · rename_i x tk q5
        intro z
        obtain rfl : x = file := of_decide_eq_true z
        exact ⟨_, _, _, _, _, q4, q5⟩
      · intro z; cases z
    · intro z; cases z
  · have z := at_ 4 _ rfl
    revert z
    show (match K.lookup (ccA K (He.ma K (He.ga K c) "__init__")) with | some ⟨_, _, .cell (some (.ref C')), _⟩ => decide (C' = He.ga K c) | _ => false) = true → _
    split
    · rename_i q1 q2 C' q3 q4
      intro z
      obtain rfl : C' = He.ga K c := of_decide_eq_true z
      exact ⟨_, _, _, q4⟩
    · intro z; cases z
  · exact Option.isSome_iff_exists.mp (at_ 5 _ rfl)
theorem fd_of {K : Frag} {c qual file : Str} {k : Nat} {fl : List Str} {st : Stmt} (h : xcB K c qual k file fl = true) (hV : prV K ⟨c, "__init__", qual, st, true⟩ = (PrF.mk c "__init__" qual st true).val) :
    ∃ (oc : Value) (od : Option Addr) (doc pm ct kV : Value) (an : Option Addr) (osl : Array (Option Value)), K.lookup (He.ma K (He.ga K c) "__init__") = some ⟨oc, od, .func (ksFn "__init__" qual (defArgs st) (defBody st) (defScope st) .none kV doc pm an (.ref (cdA K (He.ma K (He.ga K c) "__init__"))) ct (ccA K (He.ma K (He.ga K c) "__init__"))), osl⟩ ∧
      codeIn K (.ref (cdA K (He.ma K (He.ga K c) "__init__"))) qual = true := by
  have z := List.all_eq_true.mp h _ (List.mem_of_getElem? (i := 13) rfl)
  have hV : fnZ K (He.ma K (He.ga K c) "__init__") = some (("__init__" : Str), qual, defArgs st, .stmts (defBody st), defScope st, mainGlobals, [(("__class__" : Str), 0)], builtinsNs) := hV
  generalize He.ma K (He.ga K c) "__init__" = f at z hV ⊢
  have z : (fdA K f).any (cdOk K qual) = true := z
  unfold fnZ at hV
  unfold cdA ccA
  unfold fdA at z ⊢
  split at hV
  · rename_i oc od fd osl q
    rw [q] at z ⊢
    obtain ⟨n1, n2, n3, n4, n5, n6, n7, n8, n9, n10, n11, n12, n13, n14, n15⟩ := fd
    simp only [Option.some.injEq, Prod.mk.injEq] at hV
    obtain ⟨z1, z2, z3, z4, z5, z6, z7, z8⟩ := hV
    obtain ⟨k1, k2⟩ := He.ba (show (isRef n13 && (codeIn K n13 qual && (He.dflB K n8 [] && He.kwdB K n9 []))) = true from z)
    obtain ⟨k3, k4⟩ := He.ba k2
    obtain ⟨k5, k6⟩ := He.ba k4
    have hd : n8 = .none := by
      rcases He.dflB_ok k5 with ⟨_, e⟩ | ⟨e, _⟩
      · exact e
      · exact absurd rfl e
    obtain ⟨cc, rfl⟩ : ∃ cc, n7 = [(("__class__" : Str), cc)] := by
      match n7, z7 with
      | [(a, b)], z7 =>
        simp only [List.map_cons, List.map_nil, List.cons.injEq, Prod.mk.injEq, and_true] at z7
        exact ⟨b, by rw [z7]⟩
    obtain ⟨cd, rfl⟩ : ∃ cd, n13 = .ref cd := by
      cases n13 <;> first | exact ⟨_, rfl⟩ | cases k1
    subst z1 z2 z3 z4 z5 z6 z8 hd
    exact ⟨oc, od, n10, n11, n14, n9, n12, osl, rfl, k3⟩
  · cases hV
theorem xc1_of {P : Program} {K : Frag} {mg : Str → Option Value} {c qual fld p N N2 : Str} {k : Nat} {st : Stmt} (h : xcB K c qual k P.main.file [fld] = true) (hV : prV K ⟨c, "__init__", qual, st, true⟩ = (PrF.mk c "__init__" qual st true).val) (hmg : mg "super" = none) (htop : (P.main.scope.names.lookup ("super" : Str)).isSome = false)
    {e0 : Expr} {j1 : Nat} {p4 p5 a1 a2 a3 a4 b1 b2 b3 b4 : Pos} (hb : defBody st = [.Expr e0 p5, .Assign [.Attribute (.Name "self" a1) "code" a2] (.Constant (.str N2) j1 a3) a4, .Assign [.Attribute (.Name "self" b1) fld b2] (.Name p b3) b4])
    (S0 : SupS qual N (defScope st) e0 p4 p5) (S1 : SetS qual (defScope st) (.Constant (.str N2) j1 a3) (.Name "self" a1) "code" a4 a2) (S2 : SetS qual (defScope st) (.Name p b3) (.Name "self" b1) fld b4 b2)
    (bd : ∀ (kV doc pm cdv ct : Value) (an : Option Addr) (cc : Addr) (a u : Value), bindArgs (ksFn "__init__" qual (defArgs st) (defBody st) (defScope st) .none kV doc pm an cdv ct cc) ⟨[a, u], []⟩ = pure [(("self" : Str), a), (p, u)]) (har : ∃ ar, ((defArgs st).posonlyargs ++ (defArgs st).args).head? = some ar ∧ ar.arg = "self")
    (hks : (defScope st).names.lookup ("super" : Str) = some .globalImplicit) (hkc : (defScope st).names.lookup ("__class__" : Str) = some .free) (hka : (defScope st).names.lookup ("self" : Str) = some .local) (hkp : (defScope st).names.lookup p = some .local) (hk : (defScope st).kind = .function)
    (hco : (defScope st).isCoroutine = false) (hgen : (defScope st).isGenerator = false) (hnc : ∀ x ∈ (defScope st).names, x.2 ≠ .cell) (hps : p ≠ "self") (hpd : (p == ("__debug__" : Str)) = false) : XcC P K mg (He.ga K c) [fld] N2 := by
  have at_ := fun (i : Nat) (b : Bool) e => List.all_eq_true.mp h b (List.mem_of_getElem? (i := i) e)
  have T := xcK_of h
  obtain ⟨oc, od, doc, pm, ct, kV, an, osl, lk, hcd⟩ := fd_of h hV
  have tk := List.all_eq_true.mp (at_ 14 _ rfl)
  refine ⟨xcM_of T (fun w A R s g x t0 us hl G keep hgs hx gx hr hq => ?_) (by simp), by simp, of_decide_eq_true (at_ 15 _ rfl), of_decide_eq_true (at_ 16 _ rfl), at_ 17 _ rfl⟩
  match us, hl with
  | [u], _ => exact init1 T G hmg htop lk hcd (He.eqO_ok (tk _ (.head _))) (He.eqO_ok (tk _ (.tail _ (.head _)))) keep hgs hx gx hr hb S0 S1 S2 (.of_eq (bd ..)) har hks hkc hka hkp hk hco hgen hnc hps hpd hq
theorem xc0_of {P : Program} {K : Frag} {mg : Str → Option Value} {c qual N N2 : Str} {k : Nat} {st : Stmt} (h : xcB K c qual k P.main.file [] = true) (hV : prV K ⟨c, "__init__", qual, st, true⟩ = (PrF.mk c "__init__" qual st true).val) (hmg : mg "super" = none) (htop : (P.main.scope.names.lookup ("super" : Str)).isSome = false)
    {e0 : Expr} {j1 : Nat} {p4 p5 a1 a2 a3 a4 : Pos} (hb : defBody st = [.Expr e0 p5, .Assign [.Attribute (.Name "self" a1) "code" a2] (.Constant (.str N2) j1 a3) a4])
    (S0 : SupS qual N (defScope st) e0 p4 p5) (S1 : SetS qual (defScope st) (.Constant (.str N2) j1 a3) (.Name "self" a1) "code" a4 a2)
    (bd : ∀ (kV doc pm cdv ct : Value) (an : Option Addr) (cc : Addr) (a : Value), bindArgs (ksFn "__init__" qual (defArgs st) (defBody st) (defScope st) .none kV doc pm an cdv ct cc) ⟨[a], []⟩ = pure [(("self" : Str), a)]) (har : ∃ ar, ((defArgs st).posonlyargs ++ (defArgs st).args).head? = some ar ∧ ar.arg = "self")
    (hks : (defScope st).names.lookup ("super" : Str) = some .globalImplicit) (hkc : (defScope st).names.lookup ("__class__" : Str) = some .free) (hka : (defScope st).names.lookup ("self" : Str) = some .local) (hk : (defScope st).kind = .function)
    (hco : (defScope st).isCoroutine = false) (hgen : (defScope st).isGenerator = false) (hnc : ∀ x ∈ (defScope st).names, x.2 ≠ .cell) : XcC P K mg (He.ga K c) [] N2 := by
  have at_ := fun (i : Nat) (b : Bool) e => List.all_eq_true.mp h b (List.mem_of_getElem? (i := i) e)
  have T := xcK_of h
  obtain ⟨oc, od, doc, pm, ct, kV, an, osl, lk, hcd⟩ := fd_of h hV
  have tk := List.all_eq_true.mp (at_ 14 _ rfl)
  refine ⟨xcM_of T (fun w A R s g x t0 us hl G keep hgs hx gx hr hq => ?_) (by simp), by simp, of_decide_eq_true (at_ 15 _ rfl), of_decide_eq_true (at_ 16 _ rfl), at_ 17 _ rfl⟩
  match us, hl with
  | [], _ => exact init0 T G hmg htop lk hcd (He.eqO_ok (tk _ (.head _))) keep hgs hx gx hr hb S0 S1 (.of_eq (bd ..)) har hks hkc hka hk hco hgen hnc hq
end Exi
end Dl
namespace Dl
open PySem PySem.Spec PyProof.Rows L2
variable [TheW]
def unsetE (i : Nat) (D : DEnds) : DEnds where
  nx := fun st2 => D.nx { st2 with δ := st2.δ.set i none }
  rt := D.rt
  ex := fun _ _ => False
  bk := fun st2 => D.bk { st2 with δ := st2.δ.set i none }
  ct := fun st2 => D.ct { st2 with δ := st2.δ.set i none }
def catchE (tbl : List Str) (i : Nat) (ws : DS) (D : DEnds) : DEnds where
  nx := D.nx
  rt := D.rt
  ex := fun x st1 => x.c ∈ tbl ∧ ws (unsetE i D) ⟨st1.δ.set i (some (.d (.exc x.c x.ks x.vs))), st1.μ⟩
  bk := D.bk
  ct := D.ct
def wTry (tbl : List Str) (i : Nat) (wb ws : DS) : DS := fun D st => wb (catchE tbl i ws D) st
theorem Rl.unset {K : PySem.W.Frag} {n : En} {F : Hp} {ρ : List Addr} {st : Dst} {σ : L2.St} {H : Hp} (R : Rl K n F ρ st σ H) (i : Nat) : Rl K n F ρ { st with δ := st.δ.set i none } (σ.set i none) H := by
  refine ⟨R.ok, R.po, by simp [R.len], fun j w e => ?_⟩
  have e : (st.δ.set i none)[j]? = some (some w) := e
  rw [List.getElem?_set] at e
  by_cases h : i = j
  · rw [if_pos h] at e
    split at e <;> cases e
  · rw [if_neg h] at e
    rw [List.getElem?_set_ne h]
    exact R.slots j w e
theorem Rl.under {K : PySem.W.Frag} {n : En} {F F0 : Hp} {ρ ρ0 : List Addr} {st : Dst} {σ : L2.St} {H H0 : Hp} (R : Rl K ⟨F0, ρ0, H0⟩ F ρ st σ H) (p : Post n.F n.ρ n.H F0 ρ0 H0) (d : ∀ c ∈ ρ0, H0 c ≠ none) : Rl K n F ρ st σ H :=
  ⟨R.ok, p.trans R.po d, R.len, R.slots⟩
theorem _root_.L2.Inv.suite0 {X : Cx} {pins : List (Addr × Obj)} {σ : L2.St} {H : Hp} {s : Shared} (I : Inv X pins σ H s) (a : Addr) : Inv (X.suite a (X.pn ++ pins)) [] σ H s :=
  ⟨I.ok.suite _ _, I.os, I.bare, I.base, I.loc, I.cell, I.free, I.freeC, fun p hp => I.pin p (by
    have hp' : p ∈ (X.pn ++ pins) ++ [] := hp
    rw [List.append_nil] at hp'
    exact hp'), I.hok, I.len⟩
theorem _root_.L2.Inv.unsuite0 {X : Cx} {pins pn' : List (Addr × Obj)} {σ : L2.St} {H : Hp} {s : Shared} {a : Addr} (I : Inv (X.suite a (X.pn ++ pins)) pn' σ H s) (ok : X.Ok) : Inv X pins σ H s :=
  ⟨ok, I.os, I.bare, I.base, I.loc, I.cell, I.free, I.freeC, fun p hp => I.pin p (List.mem_append_left _ hp), I.hok, I.len⟩
theorem flyingZ_keeps {B h h' : Heap} {l : List Env} {a : Addr} {Z : Obj → Prop} (f : HandSPX.FlyingZ B l a Z h) (k : ∀ b o, h.get? b = some o → h'.get? b = some o) : HandSPX.FlyingZ B l a Z h' := by
  obtain ⟨f1, f2, f3, oe, vs, T, oT, ts, he, hz, hd, h1, hn, hne, hT, hdT, h3⟩ := f
  exact ⟨fun b o q => k b o (f1 b o q), f2, f3.of_keeps fun b o q _ => ⟨o, k b o q, rfl⟩, oe, vs, T, oT, ts, k _ _ he, hz, hd, h1, hn, hne, k _ _ hT, hdT, h3⟩
section
variable {X : Cx} {n : En} {i : Nat} {nm x1 x2 x3 : Str} {C1 C2 C3 : Value} {body suite : List Stmt} {b₀ : Stmt} {p1 p2 p3 tpos pos pos' : Pos} {kk : Nat} {tbl : List Str} {wb ws : DS}
theorem psd_try3 (hs : X.stack = X.env :: X.outer) (hf : X.env.frame = some X.env.locals) (hN : X.N.Nodup) (hi : X.N[i]? = some nm) (hln : X.env.kindOf nm = some .local)
    (g1 : Gl X x1) (m1 : X.mg x1 = some C1) (g2 : Gl X x2) (m2 : X.mg x2 = some C2) (g3 : Gl X x3) (m3 : X.mg x3 = some C3) (tb : ∀ c ∈ tbl, PySem.W.exmAny X.K (.ref (He.ga X.K c)) [C1, C2, C3] = some true)
    (hb : ∀ (n' : En) (pn : List (Addr × Obj)) (xe : Value → Shared → Prop), Post n.F n.ρ n.H n'.F n'.ρ n'.H → PSSD (X.tr pn xe) n' body wb) (hsu : ∀ (n : En) (a : Addr) (pn : List (Addr × Obj)), PSSD (X.suite a pn) n (b₀ :: suite) ws)
    (d1 : (x1 == ("__debug__" : Str)) = false := by decide) (d2 : (x2 == ("__debug__" : Str)) = false := by decide) (d3 : (x3 == ("__debug__" : Str)) = false := by decide) :
    PSD X n (.Try body [.ExceptHandler (some (.Tuple [.Name x1 p1, .Name x2 p2, .Name x3 p3] kk tpos)) (some nm) (b₀ :: suite) pos'] [] [] pos) (wTry tbl i wb ws) := by
  refine ⟨fun pins s σ H F ρ st DD I R tk hw => ?_⟩
  have ok := I.ok
  have hfr : X.A.frames = some (X.env :: X.outer) := by rw [ok.frames, hs]
  have hloc : Loc X.env.scope nm := .inl hln
  have R0 : Rl X.K ⟨F, ρ, H⟩ F ρ st σ H := ⟨R.ok, Post.refl F ρ H, R.len, R.slots⟩
  refine wpAny_Try_except ?_
  have hw : wb (catchE tbl i ws DD) st := hw
  refine wpAny_mono ((hb ⟨F, ρ, H⟩ (X.pn ++ pins) (fun e s₁ => wpAny (model X.prog X.w) X.A (noteFrame e X.env) (fun _ s₂ => wpAny (model X.prog X.w) X.A (setFlight e none) (fun _ s₃ =>
    wpAny (model X.prog X.w) X.A (handleBy e X.env [.ExceptHandler (some (.Tuple [.Name x1 p1, .Name x2 p2, .Name x3 p3] kk tpos)) (some nm) (b₀ :: suite) pos']) (SPD X n pins F ρ H DD) X.xe s₃) X.xe s₂) X.xe s₁) R.po).run [] s σ H F ρ st _ (I.toTry _) R0
      (fun u s' xx => ?_) hw) (fun f s1 hsp => ?_) (fun e s1 he => he)
  · -- the catch
    obtain ⟨a, B, sI, pins', σ', H', cls, d, rfl, J', nb, up, sky, na, os, ag, st1, F1, ρ1, x, R1, hx, hc, hsuite⟩ := xx
    have J : Inv X pins σ' H' sI := J'.ofTry ok
    have sky' : Sky B (X.env :: X.outer) a (Zc cls d) X.env.locals s'.heap := by rw [← hs]; exact sky
    show wpAny (model X.prog X.w) X.A (noteFrame (.ref a) X.env) _ _ _
    refine Sky.land Zc.steady hfr hf sky' fun h3 fl3 up3 => ?_
    have J3 : Inv X pins σ' H' { s' with heap := h3 } := J.landed nb fl3.1 (up.trans up3) os ag
    obtain ⟨oe3, vs3, he3, hz3, hd3⟩ := fl3.there
    obtain ⟨ec, dx, fs, ed, hdx, hks, hrv⟩ := hx
    subst ec ed
    have LT : PySem.W.Looks (model X.prog X.w) h3 (typeOf (.ref a)) (.ref (He.ga X.K x.c)) := fun A Q E s k q => wpAny_typeOf_ref (k _ _ he3) (by rw [hz3.1]; exact q)
    have kp : ∀ q o, h3.get? q = some o → (h3.push { cls := .type "tuple", data := .seq [C1, C2, C3].toArray }).get? q = some o := fun _ _ z => Heap.get?_push_of_some _ z
    refine wpAny_handleBy_cons (codeAny_handlers_test ?_) (by intro q; cases q)
    have S3 := J3.suite0 a
    refine wpAny_Tuple ?_
    refine wpAny_items_cons (ld_glob (X := X.suite a (X.pn ++ pins)) S3 g1 m1 ?_ d1)
    refine wpAny_items_cons (ld_glob (X := X.suite a (X.pn ++ pins)) S3 g2 m2 ?_ d2)
    refine wpAny_items_cons (ld_glob (X := X.suite a (X.pn ++ pins)) S3 g3 m3 ?_ d3)
    refine wpAny_items_nil ⟨by size_fits, ?_⟩
    refine (PySem.W.exm_tup3 (M := model X.prog X.w) (J3.kIn.keeps kp) (LT.keeps kp) (Heap.get?_push_size h3 rfl) (tb _ hc)).here ?_
    refine codeAny_handlers_suite_as ?_
    refine HandSPX.lands_againZ (flyingZ_keeps fl3 kp) fun h4 fl4 up4 => ?_
    have upp : sI.heap.UpToSlots h4 := ((up.trans up3).trans (Heap.UpToSlots.of_keeps kp)).trans up4
    have J4 : Inv X pins σ' H' { s' with heap := h4 } := J.landed nb fl4.1 upp os ag
    obtain ⟨oe4, vs4, he4, hz4, hd4⟩ := fl4.there
    have notFr : a ∉ frs X.stack := fun hm => by
      rw [hs] at hm
      obtain ⟨_, o', e', hnf⟩ := fl4.2.2.1.mem hm
      rw [he4] at e'
      cases e'
      exact hnf _ hd4
    have sIa : sI.heap.get? a = none := by
      cases z : sI.heap.get? a with
      | none => rfl
      | some o =>
        have y := nb a o z notFr
        rw [fl4.2.1] at y
        cases y
    obtain ⟨G, g1, g2⟩ := L2.restrict h4 fun b => decide (b ≠ a)
    have gk : ∀ b, b ≠ a → G.get? b = h4.get? b := fun b hb => g1 b (decide_eq_true hb)
    have ga : G.get? a = none := g2 a (by simp)
    have nsI : ∀ b o, sI.heap.get? b = some o → b ≠ a := fun b o e z => by rw [z, sIa] at e; cases e
    have I4 : Inv X pins σ' H' { s' with heap := G } := J.landed nb (fun b o e => (gk b fun z => by rw [z, fl4.2.1] at e; cases e).trans (fl4.1 b o e)) (fun b o e hnf => by
      obtain ⟨sl, q⟩ := upp b o e hnf
      exact ⟨sl, (gk b (nsI b o e)).trans q⟩) os ag
    have I5 : Inv X pins σ' (upd H' a (exactO a oe4)) { s' with heap := h4, toks := s'.toks } := I4.laidN (fun b u e => (gk b fun z => by rw [z, ga] at e; cases e).symm.trans e) ga na ⟨he4, ⟨_, he4⟩, fun h1 h2 z k => k _ z⟩
    have R5 := R1.data (o := exactO a oe4) na
    have nF : F1 a = none := by
      cases z : F1 a with
      | none => rfl
      | some u => have y := R1.ok.sub a u z; rw [na] at y; cases y
    have rep : RepW X.K (upd F1 a (exactO a oe4)) ρ1 (.d (.exc x.c x.ks x.vs)) (.ref a) := by
      show Rep _ _ _ _
      unfold Rep
      exact ⟨a, dx, fs, oe4, rfl, upd_same, hz4, ⟨_, hd4⟩, by rw [upd_ne (ne_of_none hdx nF)]; exact hdx, hks, RepL.sub (Post.data R1.ok.sub na (ρ := ρ1)).le _ _ hrv⟩
    refine store_ok (X := X.suite a (X.pn ++ pins)) (v := .ref a) (I5.suite0 a) hN hi hloc rfl (fun s5 S5 => ?_) (.inr hln)
    refine wpAny_mono ((hsu ⟨F, ρ, H⟩ a (X.pn ++ pins)).run [] s5 _ _ _ ρ1 _ _ S5 (R5.set i rep) (fun u s'' z => by
      obtain ⟨_, _, _, _, _, _, _, _, _, _, _, _, _, _, _, _, _, _, _, _, _, _, z⟩ := z
      exact z.elim) hsuite) (fun f s6 hsp => ?_) (fun _ _ z => False.elim z)
    cases f with
    | next =>
      obtain ⟨σ6, H6, F6, ρ6, st6, S6, p6, R6, q6⟩ := hsp
      exact gone_ok (S6.unsuite0 ok) hN hi hln fun s7 J7 => ⟨_, H6, F6, ρ6, _, J7, R6.po, (R6.under R.po R.ok.dom).unset i, q6⟩
    | brk =>
      obtain ⟨σ6, H6, F6, ρ6, st6, S6, p6, R6, q6⟩ := hsp
      exact gone_ok (S6.unsuite0 ok) hN hi hln fun s7 J7 => ⟨_, H6, F6, ρ6, _, J7, R6.po, (R6.under R.po R.ok.dom).unset i, q6⟩
    | cont =>
      obtain ⟨σ6, H6, F6, ρ6, st6, S6, p6, R6, q6⟩ := hsp
      exact gone_ok (S6.unsuite0 ok) hN hi hln fun s7 J7 => ⟨_, H6, F6, ρ6, _, J7, R6.po, (R6.under R.po R.ok.dom).unset i, q6⟩
    | ret u =>
      obtain ⟨v, w, σ6, H6, F6, ρ6, μ6, S6, r6, p6, p0, ok6, rw6, q6⟩ := hsp
      exact gone_ok (S6.unsuite0 ok) hN hi hln fun s7 J7 => ⟨v, w, _, H6, F6, ρ6, μ6, J7, r6, p0, R.po.trans p0 R.ok.dom, ok6, rw6, q6⟩
  · cases f with
    | next =>
      obtain ⟨σ', H', F', ρ', st', J', p, R', q⟩ := hsp
      exact wpAny_execs_nil ⟨σ', H', F', ρ', st', J'.ofTry ok, p, R'.under R.po R.ok.dom, q⟩
    | brk =>
      obtain ⟨σ', H', F', ρ', st', J', p, R', q⟩ := hsp
      exact ⟨σ', H', F', ρ', st', J'.ofTry ok, p, R'.under R.po R.ok.dom, q⟩
    | cont =>
      obtain ⟨σ', H', F', ρ', st', J', p, R', q⟩ := hsp
      exact ⟨σ', H', F', ρ', st', J'.ofTry ok, p, R'.under R.po R.ok.dom, q⟩
    | ret u =>
      obtain ⟨v, w, σ', H', F', ρ', μ, J', r, p, p0, ok', rw', q⟩ := hsp
      exact ⟨v, w, σ', H', F', ρ', μ, J'.ofTry ok, r, p, R.po.trans p R.ok.dom, ok', rw', q⟩
end
end Dl
namespace Dl
open PySem PySem.Spec PyProof.Rows L2
/-- room, whatever is handled -/
structure RmH (k : Nat) (A : Around) : Prop where
  dp : A.depth + 3 * k + 5 < recursionLimit
  un : A.units + 16 * k + 200 < cLine
theorem RmH.mono {j k : Nat} {A : Around} (r : RmH k A) (h : j ≤ k) : RmH j A := ⟨by have := r.dp; omega, by have := r.un; omega⟩
theorem RmH.deeper {k : Nat} {A : Around} (r : RmH (k + 1) A) (env : Env) : RmH k (A.deeper env) :=
  ⟨by have := r.dp; show A.depth + 1 + 3 * k + 5 < _; omega, by have := r.un; show A.units + 3 + 16 * k + 200 < _; omega⟩
theorem RmH.depth {k : Nat} {A : Around} (r : RmH k A) : A.depth < recursionLimit := by have := r.dp; omega
theorem rmH_of {k : Nat} {A : Around} (r : Room k A) : RmH k A := ⟨r.dp, r.un⟩
theorem rmH_mark {k : Nat} {A : Around} (r : Room k A) (h : Option Value) : RmH k (A.mark h) := ⟨r.dp, r.un⟩
theorem _root_.L2.Inv.hot0 {X : Cx} {pins : List (Addr × Obj)} {σ : L2.St} {H : Hp} {s : Shared} (I : Inv X pins σ H s) (A : Around) (xe : Value → Shared → Prop) (h : A.frames = X.A.frames) : Inv { X with A := A, calm := false, xe := xe } pins σ H s :=
  ⟨⟨I.ok.mod, I.ok.kind, I.ok.glob, I.ok.blt, I.ok.above, I.ok.inj, I.ok.has, I.ok.cab, (fun z => by have z' : false = true := z; cases z'), h.trans I.ok.frames, I.ok.stk, I.ok.exf, I.ok.bs, I.ok.bsz, I.ok.noex, I.ok.exfs, I.ok.funs, I.ok.frf⟩,
    I.os, I.bare, I.base, I.loc, I.cell, I.free, I.freeC, I.pin, I.hok, I.len⟩
variable [TheW]
abbrev cxHD (P : Program) (w : World) (K : PySem.W.Frag) (mg : Str → Option Value) (base : Heap) (N : List Str) (qual : Str) (scope : Scope) (f : Addr) (cdv : Value) (A : Around) (outer : List Env) (s : Shared) (H : Hp) (E : XK) : Cx :=
  { cxD P w K mg base N qual scope f cdv A outer s H E with calm := false }
/-- a def that may be called within an except suite -/
structure FnHD (P : Program) (w : World) (K : PySem.W.Frag) (mg : Str → Option Value) (base : Heap) (x : Str) (k m : Nat) (c : DSp) : Prop where
  ex : ∃ f fd ps, (∀ vs H Q E, SpD K m c vs H Q E → vs.length = ps.length) ∧ (∀ (A : Around) (outer : List Env) (s : Shared) (H : Hp) (args : Args) (us : List Value) (vs : List V) (Q : VK) (E : XK), RmH k A → Env0 P w K mg base A outer s H → BindsTo s fd args (ps.zip us) → Vals vs us → SpD K m c vs H Q E →
    codeAny (model P w) A (.call (.ref f) args) (CR (L2.CX P w) outer P w H s Q E) s) ∧ mg x = some (.ref f) ∧ PySem.W.keepIn K (.ref f) = true ∧ Binds K fd ps []
section
variable {P : Program} {w : World} {K : PySem.W.Frag} {mg : Str → Option Value} {base : Heap} {x : Str} {st : Stmt} {N ps : List Str} {k m : Nat} {c : DSp} {wb : DS}
abbrev BodyH (P : Program) (w : World) (K : PySem.W.Frag) (mg : Str → Option Value) (base : Heap) (x : Str) (st : Stmt) (N : List Str) (k : Nat) (wb : DS) : Prop :=
  ∀ (f : Addr) (cdv : Value) (A : Around) (outer : List Env) (s : Shared) (H : Hp) (E : XK) (n : En), RmH k (A.deeper (envOfC x (defScope st) s.heap.objs.size f cdv)) → PSSD (cxHD P w K mg base N x (defScope st) f cdv A outer s H E) n (defBody st) wb
theorem fnHD_of (D : Df K mg x st) (S : FnScope N ps (defScope st)) (hb : BodyH P w K mg base x st N k wb)
    (hc : ∀ ws μ Q E, ws.length = ps.length → c ws μ Q E → wb { nx := fun st => Q (.d .non) st.μ, rt := Q, ex := fun x st => E x st.μ } ⟨startD N.length ws, μ⟩)
    (bd : ∀ (kV doc pm : Value) (an : Option Addr) (cdv ct : Value) (us : List Value), us.length = ps.length → bindArgs (PySem.W.fnOf x x (defArgs st) (defBody st) (defScope st) .none kV doc pm an cdv ct) ⟨us, []⟩ = pure (ps.zip us)) : FnHD P w K mg base x (k + 1) ps.length c := by
  obtain ⟨f, fd, F, hm⟩ := D.ex
  have len : ∀ vs H Q E, SpD K ps.length c vs H Q E → vs.length = ps.length := fun vs H Q E ⟨_, _, _, ws, _, _, _, r, hl, _⟩ => by rw [← r.len, hl]
  refine ⟨f, fd, ps, len, fun A outer s H args us vs Q E hr e0 hbd r hsp => ?_, hm, F.kp, F.bindsN bd⟩
  obtain ⟨oc, od, dV, kV, doc, pm, an, cdv, ct, osl, rfl, lk, hcd, _, _⟩ := F.ex
  have hl := len _ _ _ _ hsp
  have KX : K.In s.heap := e0.mod.kin.keeps fun b o e => (e0.bs b o e).1
  have lim : s.heap.NoLimit := e0.mod.nolimit.keeps fun b o e => (e0.bs b o e).1
  have hkind : ∀ y ∈ ps.zip us, (defScope st).names.lookup y.1 = some .local ∨ ((defScope st).names.lookup y.1 = some .cell ∧ ((cellsFrom (s.heap.objs.size + 1) (defScope st).names []).lookup y.1).isSome = true) := fun ⟨n, v⟩ hy => by
    rcases S.par n (List.of_mem_zip hy).1 with q | q
    · exact .inl q
    · exact .inr ⟨q, PySem.W.cellsFrom_some _ _ _ (.inl q)⟩
  refine codeAny_call_function hr.depth (KX _ _ lk) rfl S.co S.gen rfl (PySem.W.codeRec_of KX hcd) (hbd _ _ _ _ ?_)
  refine wpAny_newFunctionEnv_cells S.kind hkind fun env he s1 x1 => ?_
  subst he
  refine ⟨lim.keeps x1.toInCall.keep, codeAny_func ?_⟩
  have e1 : Env0 P w K mg base { A with handled := none } outer s H := ⟨e0.frames, e0.mod, e0.bs, e0.bsz, e0.funs, e0.frf, e0.hok, e0.bare⟩
  have I0 : Inv (cxD P w K mg base N x (defScope st) f cdv { A with handled := none } outer s H E) [] (L2.start N vs) H s1 := inv_start S rfl e1 hl r x1
  have I : Inv (cxHD P w K mg base N x (defScope st) f cdv A outer s H E) [] (L2.start N vs) H s1 := I0.hot0 (A.deeper (envOfC x (defScope st) s.heap.objs.size f cdv)) _ rfl
  obtain ⟨F0, ρ, μ, ws, QD, ED, ok, rw', hlw, h, hq, he⟩ := hsp
  have tk : TkD (cxHD P w K mg base N x (defScope st) f cdv A outer s H E) ⟨F0, ρ, H⟩ (fun x st => ED x st.μ) :=
    (takes_of (X := cxHD P w K mg base N x (defScope st) f cdv A outer s H E) rfl rfl rfl rfl).imp fun cls d σ H' ⟨st', F', ρ', x, R, rx, z⟩ => he x st'.μ cls d F' ρ' H' z R.po R.ok rx
  refine wpAny_mono ((hb f cdv A outer s H E ⟨F0, ρ, H⟩ (hr.deeper _)).run [] s1 _ H F0 ρ _ { nx := fun st => QD (.d .non) st.μ, rt := QD, ex := fun x st => ED x st.μ } I (rl_start (N := N) ok rw') tk (hc ws μ QD ED hlw h)) (fun fl s' hs => ?_) fun e s' hs => hs
  cases fl with
  | ret u =>
    obtain ⟨v, w', σ', H', F', ρ', μ', J, rv, p, p0, ok', rwv, q⟩ := hs
    exact ⟨v, H', J.os, J.bare, J.base, J.hok, rv, hq w' μ' v F' ρ' H' q p ok' rwv⟩
  | next =>
    obtain ⟨σ', H', F', ρ', st', J, p, R, q⟩ := hs
    exact ⟨.non, H', J.os, J.bare, J.base, J.hok, rfl, hq (.d .non) st'.μ .non F' ρ' H' q p R.ok rfl⟩
  | brk =>
    obtain ⟨_, _, _, _, _, _, _, _, q⟩ := hs
    exact False.elim q
  | cont =>
    obtain ⟨_, _, _, _, _, _, _, _, q⟩ := hs
    exact False.elim q
end
section
variable {X : Cx} {n : En} {e : Expr} {es : List Expr} {we : DE} {wa : DA} {p pos : Pos} {x : Str} {k m : Nat} {c : DSp}
theorem pd_calH (D : FnHD X.prog X.w X.K X.mg X.base x k m c) (hr : RmH k X.A) (hg : Gl X x) (ha : PAD X n (e :: es) wa) (hm : (e :: es).length = m := by rfl) (hdb : (x == ("__debug__" : Str)) = false := by decide)
    (he : starEach (e :: es) X.env = (false, eval e X.env) :: starEach es X.env := by rfl) (hpl : (backTo pos (starEach es X.env)).any (·.1) = false := by rfl) : PD X n (.Call (.Name x p) (e :: es) [] pos) (wCalN m c wa) := by
  obtain ⟨f, fd, ps, len, Fn, hmg, hk, hb⟩ := D.ex
  refine ⟨fun pins s σ H F ρ st Q E I R tk hw => ?_⟩
  refine wpAny_Call_Name_kw (ld_glob I hg hmg ?_ hdb)
  refine PySem.W.callWith_K (h₀ := X.base) I.ok.mod.kin hk (thn (ha.run pos pins s σ H F ρ st _ E I R tk hw) fun us s1 ⟨vs, ws, st1, H1, F1, ρ1, I1, r, p1, R1, rw, q⟩ => ⟨I1.kIn, ?_⟩) he hpl
  have sp := call_sp R1 rw q.1 q.2 (EX := WE (fun cls d σ H => ∃ st F ρ x, Rl X.K n F ρ st σ H ∧ ExRep X.K F x cls d H ∧ E x st) σ) fun cls d H' z => z
  have hl : us.length = ps.length := by rw [← r.length]; exact len _ _ _ _ sp
  have b := hb s1 us I1.kIn (by rw [List.append_nil]; exact hl)
  rw [List.append_nil] at b
  have run : wpAny (model X.prog X.w) X.A (call (.ref f) us) (EP X pins σ (qE X n σ F1 ρ1 H1 Q)) X.xe s1 := by
    refine wpAny_call (codeAny_mono (Fn X.A X.stack s1 H1 ⟨us, []⟩ us vs _ _ hr I1.env0 b r sp) fun r s' hq => ?_)
    cases r with
    | error e => exact passAt tk σ pins H1 s1 e s' I1 hq
    | ok fl =>
      cases fl with
      | ret u => exact I1.after hq
      | next => exact False.elim hq
      | brk => exact False.elim hq
      | cont => exact False.elim hq
  exact thn run fun u s2 ⟨v, H2, I2, r2, w', st', F', ρ', p2, R2, rw2, q2⟩ => ⟨v, w', st', H2, F', ρ', I2, r2, p1.trans p2 R1.ok.dom, R2, rw2, q2⟩
structure XfT (K : PySem.W.Frag) (tbl : List (Str × Str)) : Prop where
  at_ : ∀ c f, (c, f) ∈ tbl → XfC K (He.ga K c) ∧ PySem.W.findIn K (.ref (He.ga K c)) f = some none
def xftB (K : PySem.W.Frag) (tbl : List (Str × Str)) : Bool := tbl.all fun p => xfB K (He.ga K p.1) && He.eqO (PySem.W.findIn K (.ref (He.ga K p.1)) p.2) (some none)
theorem xft_ok {K : PySem.W.Frag} {tbl : List (Str × Str)} (h : xftB K tbl = true) : XfT K tbl := ⟨fun c f hm => by
  obtain ⟨h1, h2⟩ := He.ba (List.all_eq_true.mp h _ hm)
  exact ⟨xfB_ok h1, He.eqO_ok h2⟩⟩
structure xfP (tbl : List (Str × Str)) (f : Str) (v : W) (st : Dst) (Q : DQ) : Prop where
  ex : ∃ c ks vs d, v = .d (.exc c ks vs) ∧ (c, f) ∈ tbl ∧ (ks.zip vs).lookup f = some d ∧ Q (.d d) st
def wXf (tbl : List (Str × Str)) (f : Str) (we : DE) : DE := fun st Q E => we st (fun v st1 => xfP tbl f v st1 Q) E
theorem lookup_rep {K : PySem.W.Frag} {F : Hp} {f : Str} : ∀ {fs : List (Str × V)} {ds : List D} {d : D}, RepL K F ds (fs.map (·.2)) → ((fs.map (·.1)).zip ds).lookup f = some d → ∃ v, fs.lookup f = some v ∧ Rep K F d v
  | [], ds, d, _, h => by simp at h
  | (g, v) :: fs, ds, d, r, h => by
    cases ds with
    | nil => simp at h
    | cons d0 ds =>
      have r : RepL K F (d0 :: ds) (v :: fs.map (·.2)) := r
      unfold RepL at r
      obtain ⟨v', t, e, q, rt⟩ := r
      cases e
      have h : ((g, d0) :: ((fs.map (·.1)).zip ds)).lookup f = some d := h
      rw [List.lookup_cons] at h ⊢
      cases z : f == g with
      | true => rw [z] at h; cases h; exact ⟨v, rfl, q⟩
      | false => rw [z] at h; exact lookup_rep rt h
theorem pd_xfld {tbl : List (Str × Str)} {f : Str} (T : XfT X.K tbl) (he : PD X n e we) (hb : attributeBase e f X.env (eval e X.env) = eval e X.env := by rfl) : PD X n (.Attribute e f pos) (wXf tbl f we) := by
  refine ⟨fun pins s σ H F ρ st Q E I R tk hw => ?_⟩
  refine attr_of hb (thn (he.run pins s σ H F ρ st _ E I R tk hw) fun u s1 ⟨v, w1, st1, H1, F1, ρ1, I1, rv, p1, R1, r1, h1⟩ => ?_)
  obtain ⟨c, ks, vs, d, rfl, hm, hl, q⟩ := h1.ex
  have r1 : Rep X.K F1 (.exc c ks vs) v := r1
  unfold Rep at r1
  obtain ⟨a, dx, fs, oe, rfl, ha, hz, hd, hdx, rfl, rfs⟩ := r1
  obtain rfl : u = Value.ref a := rv
  obtain ⟨T1, hno⟩ := T.at_ c f hm
  obtain ⟨v', l, rv'⟩ := lookup_rep rfs hl
  have ea : s1.heap.get? a = some oe := by
    have x : ObjOk X.prog X.w H1 s1.heap a (exactO a oe) := I1.hok a _ (R1.ok.sub _ _ ha)
    exact x.1
  obtain ⟨vs', hd⟩ := hd
  have hx : ObjOk X.prog X.w H1 s1.heap dx (.xd fs) := I1.hok dx _ (R1.ok.sub _ _ hdx)
  obtain ⟨mA, hns, hr⟩ := hx
  obtain ⟨od, ho, hlk⟩ := lookIn_ns hns
  obtain ⟨u, hu, ru⟩ := RelO.some_of (v := v') (o := mA f) (by rw [← l]; exact hr f)
  have J : PySem.W.InstAt s1.heap a oe (He.ga X.K c) (some od) := ⟨ea, hz.1, by unfold PySem.W.notCls; rw [hd], by rw [hz.2]; exact ho⟩
  exact HandSPX.exc_get I1.kIn J T1.ga T1.gg T1.exC (PySem.W.findObj_own T1.hdC hno rfl (by rw [hlk, hu])) (handed_of ru) ⟨v', .d d, st1, H1, F1, ρ1, I1.tok _, ru, p1, R1, rv', q⟩
end
end Dl
namespace Dl
open PySem PySem.Spec PyProof.Rows L2
variable [TheW]
def tabUB (K : PySem.W.Frag) (p : He.Defn) : Bool := lamDefs.all fun p' => !PySem.W.codeHdIn K (He.cT K p').1 (He.cT K p').2 || (!decide ((He.cT K p').2 = (He.cT K p).2) || decide (lamQ p' = lamQ p))
/-- what the def at hand must have to make lambdas -/
structure LamM (X : Cx) (p : He.Defn) : Prop where
  mem : p ∈ lamDefs
  hd : PySem.W.codeHdIn X.K (He.cT X.K p).1 (He.cT X.K p).2 = true
  tb : LamX.TabB X.base X.mg (He.cT X.K p).1 (He.cT X.K p).2
  code : X.env.code = .ref (He.cT X.K p).1
  qual : X.env.qual ++ "<lambda>" = lamQ p
  uni : tabUB X.K p = true
def wLam (l : LamC) (cl : List (Str × Addr)) : DE := fun st Q _ => Q (.d (.lamR l cl)) st
section
variable {X : Cx} {n : En} {p : He.Defn} {params : Arguments} {body : Expr} {scope : Scope} {pos : Pos} {firstLine : Nat}
theorem mkTail_D {dV : Value} {dfl : List Int} {pins : List (Addr × Obj)} {s : Shared} {σ : L2.St} {H F : Hp} {ρ : List Addr} {st : Dst} {Q : DQ} {E : Value → Shared → Prop} (M : LamM X p) (I : Inv X pins σ H s) (R : Rl X.K n F ρ st σ H)
    (hfree : ∀ y ∈ scope.names, y.2 = .free → ∃ c, X.env.cells.lookup y.1 = some c) (hd : (dfl = [] ∧ dV = .none) ∨ ∃ t, dV = .ref t ∧ F t = some (.tup (dfl.map V.int))) (hq : Q (.d (.lamR ⟨lamQ p, params, dfl, body, scope⟩ X.env.cells)) st) :
    wpAny (model X.prog X.w) X.A (makeTail "<lambda>" (lamQ p) params (.expr body) scope X.env dV .none none pos firstLine) (EPD X n pins σ F ρ H Q) E s := by
  obtain ⟨ps, h0, hP, ht, ha⟩ := R.ok.tabs p M.mem M.hd
  generalize eP : (He.cT X.K p).2 = P at h0 hP
  have TBc := M.tb.code
  have TBm := M.tb.bm
  have TBg := M.tb.gP
  have hcode := M.code
  rw [eP] at TBc TBm TBg
  have bP : s.heap.BuiltinsAt X.mg P := TBm.keeps I.bk
  have hP' : s.heap.get? P = some { cls := .none, data := .fields ps } := I.hok P _ hP
  have lam : ∀ {F' : Hp} {f c' : Addr} {ctv doc pm : Value}, SubH F F' → F' f = some (exactO f (PySem.W.kdv_obj "<lambda>" (lamQ p) params (.expr body) scope (cloFrom X.env.cells scope.names []) dV doc pm c' ctv)) → F' c' = some (LamX.CodeO c' (lamQ p)) →
      RepW X.K F' ρ (.d (.lamR ⟨lamQ p, params, dfl, body, scope⟩ X.env.cells)) (.ref f) := fun {F' f c' ctv doc pm} su e1 e2 => by
    show Rep _ _ _ _
    unfold Rep
    exact ⟨f, _, rfl, ⟨e1, rfl, rfl, rfl, rfl, rfl, rfl, rfl, rfl, rfl, ⟨c', rfl, e2⟩, hd.imp id fun ⟨t, a, b⟩ => ⟨t, a, su _ _ b⟩⟩⟩
  cases hc : codeAmong pos ps.toList with
  | none =>
    refine PySem.W.kdv_makeTail (mg := X.mg) (c := (He.cT X.K p).1) (P := P) (ps := ps) (closure_ok hfree) I.ok.glob (I.mod.glob.keeps I.bk) hcode (TBc.keeps I.bk) hP' ht hc TBg bP fun c' ctv doc h' tk hx hge hlt hrec htb => ?_
    obtain ⟨c2, oc, vs, t, e2, hoc, hdd, hv⟩ := hrec
    cases e2
    have nC : H c' = none := I.hok.fresh hge
    have I1 := LamX.inv_table (t' := tk) (more := #[rawInt pos.line, rawInt pos.col, .ref c']) (h' := h') I hP (fun b o hb e => hx b o hb e) htb hge ⟨oc, vs, t, hoc, hdd, hv⟩
    have hsz : s.heap.objs.size ≤ h'.objs.size := Nat.le_trans hge (Nat.le_of_lt hlt)
    have nPc : P ≠ c' := ne_of_none hP nC
    have fP : h'.objs.size ≠ P := Nat.ne_of_gt (Nat.lt_of_lt_of_le (Heap.lt_size hP') hsz)
    have fc : h'.objs.size ≠ c' := Nat.ne_of_gt hlt
    have nf : H h'.objs.size = none := I.hok.fresh hsz
    have get : (h'.push (PySem.W.kdv_obj "<lambda>" (lamQ p) params (.expr body) scope (cloFrom X.env.cells scope.names []) dV doc ((X.mg "__name__").getD .none) c' ctv)).get? h'.objs.size = some (PySem.W.kdv_obj "<lambda>" (lamQ p) params (.expr body) scope (cloFrom X.env.cells scope.names []) dV doc ((X.mg "__name__").getD .none) c' ctv) := Heap.get?_push_size _ rfl
    have I2 := I1.laid (t' := tk) (a := h'.objs.size) (o := exactO h'.objs.size (PySem.W.kdv_obj "<lambda>" (lamQ p) params (.expr body) scope (cloFrom X.env.cells scope.names []) dV doc ((X.mg "__name__").getD .none) c' ctv)) (h' := h'.push (PySem.W.kdv_obj "<lambda>" (lamQ p) params (.expr body) scope (cloFrom X.env.cells scope.names []) dV doc ((X.mg "__name__").getD .none) c' ctv))
      (fun b o e => Heap.get?_push_of_some _ e) (Nat.le_refl _) ⟨get, ⟨_, get⟩, fun h1 h2 z k => k _ z⟩
    generalize h'.objs.size = f at *
    have Fn : ∀ {b : Addr}, H b = none → F b = none := fun {b} hb => by
      cases z : F b with
      | none => rfl
      | some u => have y := R.ok.sub b u z; rw [hb] at y; cases y
    have le : SubH F (upd (upd F c' (LamX.CodeO c' (lamQ p))) f (exactO f (PySem.W.kdv_obj "<lambda>" (lamQ p) params (.expr body) scope (cloFrom X.env.cells scope.names []) dV doc ((X.mg "__name__").getD .none) c' ctv))) := fun b o e => by
      rw [upd_ne (ne_of_none e (Fn nf)), upd_ne (ne_of_none e (Fn nC))]; exact e
    have HH : ∀ b, b ≠ P → b ≠ c' → b ≠ f → (upd (upd (upd H P (.tbl (ps ++ #[rawInt pos.line, rawInt pos.col, .ref c']))) c' (LamX.CodeO c' (lamQ p))) f (exactO f (PySem.W.kdv_obj "<lambda>" (lamQ p) params (.expr body) scope (cloFrom X.env.cells scope.names []) dV doc ((X.mg "__name__").getD .none) c' ctv))) b = H b := fun b h1 h2 h3 => by
      rw [upd_ne h3, upd_ne h2, upd_ne h1]
    have HP : (upd (upd (upd H P (.tbl (ps ++ #[rawInt pos.line, rawInt pos.col, .ref c']))) c' (LamX.CodeO c' (lamQ p))) f (exactO f (PySem.W.kdv_obj "<lambda>" (lamQ p) params (.expr body) scope (cloFrom X.env.cells scope.names []) dV doc ((X.mg "__name__").getD .none) c' ctv))) P = some (.tbl (ps ++ #[rawInt pos.line, rawInt pos.col, .ref c'])) := by
      rw [upd_ne (Ne.symm fP), upd_ne nPc, upd_same]
    have rP : ∀ a ∈ ρ, a ≠ P := fun a hm z => R.ok.notab a hm ps (by rw [z]; exact hP)
    have rc : ∀ a ∈ ρ, a ≠ c' := fun a hm z => R.ok.dom a hm (by rw [z]; exact nC)
    have rf : ∀ a ∈ ρ, a ≠ f := fun a hm z => R.ok.dom a hm (by rw [z]; exact nf)
    have po : Post F ρ H (upd (upd F c' (LamX.CodeO c' (lamQ p))) f (exactO f (PySem.W.kdv_obj "<lambda>" (lamQ p) params (.expr body) scope (cloFrom X.env.cells scope.names []) dV doc ((X.mg "__name__").getD .none) c' ctv))) ρ (upd (upd (upd H P (.tbl (ps ++ #[rawInt pos.line, rawInt pos.col, .ref c']))) c' (LamX.CodeO c' (lamQ p))) f (exactO f (PySem.W.kdv_obj "<lambda>" (lamQ p) params (.expr body) scope (cloFrom X.env.cells scope.names []) dV doc ((X.mg "__name__").getD .none) c' ctv))) := by
      refine ⟨le, ⟨[], by simp⟩, fun b hb => ?_, fun b o e nm => ?_, fun b hb hn => absurd hb hn⟩
      · by_cases h1 : b = f
        · rw [h1]; exact .inr (.inl nf)
        · by_cases h2 : b = c'
          · rw [h2]; exact .inr (.inl nC)
          · rw [upd_ne h1, upd_ne h2] at hb; exact .inl hb
      · by_cases h1 : b = P
        · rw [h1] at e ⊢
          rw [hP] at e
          cases e
          exact .inr ⟨ps, _, rfl, HP⟩
        · exact .inl (by rw [HH b h1 (ne_of_none e nC) (ne_of_none e nf)]; exact e)
    have ok2 : StOk X.K (upd (upd F c' (LamX.CodeO c' (lamQ p))) f (exactO f (PySem.W.kdv_obj "<lambda>" (lamQ p) params (.expr body) scope (cloFrom X.env.cells scope.names []) dV doc ((X.mg "__name__").getD .none) c' ctv))) ρ st.μ (upd (upd (upd H P (.tbl (ps ++ #[rawInt pos.line, rawInt pos.col, .ref c']))) c' (LamX.CodeO c' (lamQ p))) f (exactO f (PySem.W.kdv_obj "<lambda>" (lamQ p) params (.expr body) scope (cloFrom X.env.cells scope.names []) dV doc ((X.mg "__name__").getD .none) c' ctv))) := by
      refine ⟨fun b o e => ?_, R.ok.len, R.ok.nd, fun a hm => ?_, fun i a o e1 e2 => ?_, fun p' hp' hcd' => ?_, fun a hm qs => ?_⟩
      · by_cases h1 : b = f
        · rw [h1, upd_same] at e ⊢; exact e
        · by_cases h2 : b = c'
          · rw [upd_ne h1] at e ⊢
            rw [h2, upd_same] at e ⊢; exact e
          · rw [upd_ne h1, upd_ne h2] at e
            rw [HH b (fun z => by rw [z, h0] at e; cases e) h2 h1]
            exact R.ok.sub b o e
      · rw [HH a (rP a hm) (rc a hm) (rf a hm)]; exact R.ok.dom a hm
      · have hm := List.mem_of_getElem? e1
        exact (R.ok.obj i a o e1 e2).mono le (fun z => by rw [upd_ne (rf a hm), upd_ne (rc a hm)]; exact z) fun u z => by rw [HH a (rP a hm) (rc a hm) (rf a hm)]; exact z
      · obtain ⟨qs, k0, k1, k2, k3⟩ := R.ok.tabs p' hp' hcd'
        by_cases hb : (He.cT X.K p').2 = P
        · have u := List.all_eq_true.mp M.uni p' hp'
          rw [hcd'] at u
          have u : (!decide ((He.cT X.K p').2 = (He.cT X.K p).2) || decide (lamQ p' = lamQ p)) = true := u
          rw [hb, eP] at u
          have uq : lamQ p' = lamQ p := by simpa using u
          rw [hb] at k1 ⊢
          rw [hP] at k1
          cases k1
          rw [uq]
          refine ⟨_, ?_, HP, by rw [show (ps ++ #[rawInt pos.line, rawInt pos.col, .ref c']).toList = ps.toList ++ [rawInt pos.line, rawInt pos.col, .ref c'] by simp]; exact PySem.TriplesOk_snoc _ _ _ _ ht, fun pp cv hcv => ?_⟩
          · rw [upd_ne (Ne.symm fP), upd_ne nPc]; exact h0
          · rw [show (ps ++ #[rawInt pos.line, rawInt pos.col, .ref c']).toList = ps.toList ++ [rawInt pos.line, rawInt pos.col, .ref c'] by simp] at hcv
            rcases LamX.among_app _ ht hcv with z | z
            · obtain ⟨c0, e1, e2⟩ := ha pp cv z
              exact ⟨c0, e1, le _ _ e2⟩
            · exact ⟨c', z, by rw [upd_ne (Ne.symm fc), upd_same]⟩
        · have q1 : (He.cT X.K p').2 ≠ c' := ne_of_none k1 nC
          have q2 : (He.cT X.K p').2 ≠ f := ne_of_none k1 nf
          refine ⟨qs, by rw [upd_ne q2, upd_ne q1]; exact k0, by rw [HH _ hb q1 q2]; exact k1, k2, fun pp cv hcv => ?_⟩
          obtain ⟨c0, e1, e2⟩ := k3 pp cv hcv
          exact ⟨c0, e1, le _ _ e2⟩
      · rw [HH a (rP a hm) (rc a hm) (rf a hm)]; exact R.ok.notab a hm qs
    exact ⟨.ref f, _, st, _, _, ρ, I2, rfl, po, R.step po ok2, lam le upd_same (by rw [upd_ne (Ne.symm fc), upd_same]), hq⟩
  | some cv =>
    obtain ⟨c', e, hco⟩ := ha pos cv hc
    subst e
    refine PySem.W.kdv_makeTailHit (mg := X.mg) (c := (He.cT X.K p).1) (P := P) (ps := ps) (closure_ok hfree) I.ok.glob (I.mod.glob.keeps I.bk) hcode (TBc.keeps I.bk) hP' ht hc bP fun ctv doc h' tk hx hsz => ?_
    have I1 : Inv X pins σ H { s with heap := h', toks := tk } := I.kept hx
    have get : (h'.push (PySem.W.kdv_obj "<lambda>" (lamQ p) params (.expr body) scope (cloFrom X.env.cells scope.names []) dV doc ((X.mg "__name__").getD .none) c' ctv)).get? h'.objs.size = some (PySem.W.kdv_obj "<lambda>" (lamQ p) params (.expr body) scope (cloFrom X.env.cells scope.names []) dV doc ((X.mg "__name__").getD .none) c' ctv) := Heap.get?_push_size _ rfl
    have nf : H h'.objs.size = none := I.hok.fresh hsz
    have I2 := I1.laid (t' := tk) (a := h'.objs.size) (o := exactO h'.objs.size (PySem.W.kdv_obj "<lambda>" (lamQ p) params (.expr body) scope (cloFrom X.env.cells scope.names []) dV doc ((X.mg "__name__").getD .none) c' ctv)) (h' := h'.push (PySem.W.kdv_obj "<lambda>" (lamQ p) params (.expr body) scope (cloFrom X.env.cells scope.names []) dV doc ((X.mg "__name__").getD .none) c' ctv))
      (fun b o e => Heap.get?_push_of_some _ e) (Nat.le_refl _) ⟨get, ⟨_, get⟩, fun h1 h2 z k => k _ z⟩
    have po := Post.data (ρ := ρ) (o := exactO h'.objs.size (PySem.W.kdv_obj "<lambda>" (lamQ p) params (.expr body) scope (cloFrom X.env.cells scope.names []) dV doc ((X.mg "__name__").getD .none) c' ctv)) R.ok.sub nf
    exact ⟨.ref _, _, st, _, _, ρ, I2, rfl, po, R.data nf, lam po.le upd_same (po.le _ _ hco), hq⟩
theorem pd_lam (M : LamM X p) (hdef : defaultsOf params X.env = ([], [])) (L : LamX.LamS X.env.scope scope) : PD X n (.Lambda params body scope pos) (wLam ⟨lamQ p, params, [], body, scope⟩ X.env.cells) := by
  refine ⟨fun pins s σ H F ρ st Q E I R tk hw => ?_⟩
  refine PySem.W.kla_eval hdef ?_
  rw [makeFunction_eq]
  simp only [List.zip_nil_right, List.filterMap_nil, List.isEmpty_nil, if_true, pure_bind]
  rw [M.qual]
  exact mkTail_D M I R (L.has I.ok) (.inl ⟨rfl, rfl⟩) hw
end
end Dl
namespace Dl
open PySem PySem.Spec PyProof.Rows L2
def inC (cl : List (Str × Addr)) (b : Addr) : Prop := b ∈ cl.filterMap fun p => cl.lookup p.1
instance (cl : List (Str × Addr)) (b : Addr) : Decidable (inC cl b) := by unfold inC; infer_instance
def hidC (cl : List (Str × Addr)) (H : Hp) : Hp := fun b => if inC cl b then none else H b
def putC (cl : List (Str × Addr)) (H0 H : Hp) : Hp := fun b => if inC cl b then H0 b else H b
def CelH (cl : List (Str × Addr)) (H : Hp) : Prop := ∀ b, inC cl b → ∃ o u, H b = some (exactO b o) ∧ o.data = .cell u
theorem hidC_in {cl : List (Str × Addr)} {H : Hp} {b : Addr} (h : inC cl b) : hidC cl H b = none := if_pos h
theorem hidC_out {cl : List (Str × Addr)} {H : Hp} {b : Addr} (h : ¬ inC cl b) : hidC cl H b = H b := if_neg h
theorem putC_in {cl : List (Str × Addr)} {H0 H : Hp} {b : Addr} (h : inC cl b) : putC cl H0 H b = H0 b := if_pos h
theorem putC_out {cl : List (Str × Addr)} {H0 H : Hp} {b : Addr} (h : ¬ inC cl b) : putC cl H0 H b = H b := if_neg h
theorem exactO_ne {a b : Addr} {o : Obj} {u : HO} (h : exactO a o = u) : (∀ x, u ≠ .own x) ∧ (∀ xs, u ≠ .tup xs) ∧ (∀ p q, u ≠ .frz p q) ∧ (∀ ps, u ≠ .tbl ps) ∧ ∀ xs, u ≠ .lst xs := by
  subst h
  unfold exactO
  exact ⟨fun x z => (by cases z), fun x z => (by cases z), fun x y z => (by cases z), fun x z => (by cases z), fun x z => (by cases z)⟩
theorem CelH.not {cl : List (Str × Addr)} {H : Hp} (h : CelH cl H) {b : Addr} {u : HO} (e : H b = some u) (hu : (∃ x, u = .own x) ∨ (∃ xs, u = .tup xs) ∨ (∃ p q, u = .frz p q) ∨ (∃ ps, u = .tbl ps)) : ¬ inC cl b := fun z => by
  obtain ⟨o, w, e2, _⟩ := h b z
  rw [e] at e2
  cases e2
  obtain ⟨n1, n2, n3, n4, _⟩ := exactO_ne (a := b) (b := b) (o := o) rfl
  rcases hu with ⟨x, q⟩ | ⟨x, q⟩ | ⟨x, y, q⟩ | ⟨x, q⟩
  · exact n1 _ q
  · exact n2 _ q
  · exact n3 _ _ q
  · exact n4 _ q
section
variable {P : Program} {w : World} {cl : List (Str × Addr)} {H H' : Hp} {h h' : Heap} {fs : List Addr}
theorem hok_hid (x : HOk P w H h) (c : CelH cl H) : HOk P w (hidC cl H) h := fun b o e => by
  have nb : ¬ inC cl b := fun z => by rw [hidC_in z] at e; cases e
  rw [hidC_out nb] at e
  exact (x b o e).stay (fun _ _ _ q => q) (fun d q => by rw [hidC_out (c.not q (.inl ⟨_, rfl⟩))]; exact q) fun d xs q => by rw [hidC_out (c.not q (.inr (.inl ⟨_, rfl⟩)))]; exact q
theorem celH_get (x : HOk P w H h) (c : CelH cl H) {b : Addr} (hb : inC cl b) : ∃ o u, H b = some (exactO b o) ∧ h.get? b = some o ∧ o.data = .cell u := by
  obtain ⟨o, u, e, d⟩ := c b hb
  have z : ObjOk P w H h b (exactO b o) := x b _ e
  exact ⟨o, u, e, z.1, d⟩
theorem hok_put (c : CelH cl H) (x : HOk P w H' h') (n : ∀ b, inC cl b → H' b = none) (k : ∀ b o, inC cl b → H b = some (exactO b o) → h'.get? b = some o) : HOk P w (putC cl H H') h' := fun b o e => by
  by_cases hb : inC cl b
  · rw [putC_in hb] at e
    obtain ⟨o', u, e', d⟩ := c b hb
    rw [e'] at e
    cases e
    have g := k b o' hb e'
    exact ⟨g, ⟨_, g⟩, fun h1 h2 z q => q _ z⟩
  · rw [putC_out hb] at e
    refine (x b o e).stay (fun _ _ _ q => q) (fun d q => ?_) fun d xs q => ?_
    · rw [putC_out fun z => by rw [n d z] at q; cases q]; exact q
    · rw [putC_out fun z => by rw [n d z] at q; cases q]; exact q
theorem un_put (c : CelH cl H) (x : HOk P w H h) (fr : ∀ b ∈ fs, H b = none) (u : Un fs [] (hidC cl H) H' h h') (x' : HOk P w H' h') : (∀ b, inC cl b → H' b = none) ∧ Un fs [] H (putC cl H H') h h' ∧ HOk P w (putC cl H H') h' := by
  have nf : ∀ b, inC cl b → b ∉ fs := fun b hb hm => by
    obtain ⟨o, w, e, _⟩ := c b hb
    rw [fr b hm] at e; cases e
  have n : ∀ b, inC cl b → H' b = none := fun b hb => by
    obtain ⟨o, w, e, g, _⟩ := celH_get x c hb
    exact u.free b o g (hidC_in hb) (by simp)
  have k : ∀ b o, inC cl b → H b = some (exactO b o) → h'.get? b = some o := fun b o hb e => by
    have z : h.get? b = some o := by
      have y : ObjOk P w H h b (exactO b o) := x b _ e
      exact y.1
    exact u.keep b o z (hidC_in hb) (nf b hb) (by simp)
  refine ⟨n, ⟨fun b o q e hf hx => ?_, fun b o q e hf hx => ?_, fun b o q e hx => ?_, fun b o q hx => u.there b o q hx, fun b xs e => ?_, fun b o v e => ?_, fun b ps e => ?_⟩, hok_put c x' n k⟩
  · exact u.keep b o q (by unfold hidC; split; rfl; exact e) hf hx
  · exact u.slot b o q (by unfold hidC; split; rfl; exact e) hf hx
  · have nb : ¬ inC cl b := fun z => by obtain ⟨_, _, e', _⟩ := c b z; rw [e] at e'; cases e'
    rw [putC_out nb]
    exact u.free b o q (by rw [hidC_out nb]; exact e) hx
  · have nb := c.not e (.inr (.inl ⟨_, rfl⟩))
    rw [putC_out nb]
    exact u.tups b xs (by rw [hidC_out nb]; exact e)
  · have nb := c.not e (.inr (.inr (.inl ⟨_, _, rfl⟩)))
    rw [putC_out nb]
    exact u.frzs b o v (by rw [hidC_out nb]; exact e)
  · have nb := c.not e (.inr (.inr (.inr ⟨_, rfl⟩)))
    rw [putC_out nb]
    exact u.tbls b ps (by rw [hidC_out nb]; exact e)
theorem cx_put {outer : List Env} {s s' : Shared} {E : XK} {e : Value} (c : CelH cl H) (x : HOk P w H s.heap) (fr : ∀ b ∈ frs outer, H b = none) (z : L2.CX P w outer (hidC cl H) s E e s') :
    L2.CX P w outer H s (fun cls d H'' => ∃ H', H'' = putC cl H H' ∧ (∀ b, inC cl b → H' b = none) ∧ E cls d H') e s' := by
  obtain ⟨a, B, H', cls, d, rfl, fl, hok, ub, na, os, ag, he⟩ := z
  have nf : ∀ b, inC cl b → b ∉ frs outer := fun b hb hm => by
    obtain ⟨o, w, e, _⟩ := c b hb
    rw [fr b hm] at e; cases e
  have n : ∀ b, inC cl b → H' b = none := fun b hb => by
    obtain ⟨o, w, e, g, _⟩ := celH_get x c hb
    exact ub.free b o g (hidC_in hb)
  have k : ∀ b o, inC cl b → H b = some (exactO b o) → B.get? b = some o := fun b o hb e => by
    have z : s.heap.get? b = some o := by
      have y : ObjOk P w H s.heap b (exactO b o) := x b _ e
      exact y.1
    exact ub.keep b o z (hidC_in hb) (nf b hb)
  refine ⟨a, B, putC cl H H', cls, d, rfl, fl, hok_put c hok n k, ⟨fun b o q e hf => ?_, fun b o q hf => ub.slot b o q hf, fun b o q e => ?_, fun b o q hf => ub.there b o q hf, fun b xs e => ?_, fun b o v e => ?_, fun b ps e => ?_⟩, ?_, os, ag, H', rfl, n, he⟩
  · exact ub.keep b o q (by unfold hidC; split; rfl; exact e) hf
  · have nb : ¬ inC cl b := fun z => by obtain ⟨_, _, e', _⟩ := c b z; rw [e] at e'; cases e'
    rw [putC_out nb]
    exact ub.free b o q (by rw [hidC_out nb]; exact e)
  · have nb := c.not e (.inr (.inl ⟨_, rfl⟩))
    rw [putC_out nb]
    exact ub.tups b xs (by rw [hidC_out nb]; exact e)
  · have nb := c.not e (.inr (.inr (.inl ⟨_, _, rfl⟩)))
    rw [putC_out nb]
    exact ub.frzs b o v (by rw [hidC_out nb]; exact e)
  · have nb := c.not e (.inr (.inr (.inr ⟨_, rfl⟩)))
    rw [putC_out nb]
    exact ub.tbls b ps (by rw [hidC_out nb]; exact e)
  · have nb : ¬ inC cl a := fun hb => by
      obtain ⟨o, w, e, g, _⟩ := celH_get x c hb
      have := k a o hb e
      rw [fl.2.1] at this
      cases this
    rw [putC_out nb]
    exact na
end
section
variable [TheW] {K : PySem.W.Frag} {cl : List (Str × Addr)} {F F' H H' : Hp} {ρ ρ' : List Addr} {μ μ' : List O}
theorem stOk_hid (ok : StOk K F ρ μ H) (c : CelH cl H) (fF : ∀ b, inC cl b → F b = none) (fρ : ∀ b, inC cl b → b ∉ ρ) : StOk K F ρ μ (hidC cl H) := by
  refine ⟨fun b o e => ?_, ok.len, ok.nd, fun a hm => ?_, fun i a o e1 e2 => ?_, ok.tabs.ext (SubH.refl F) fun b ps f e => ⟨f, by rw [hidC_out (c.not e (.inr (.inr (.inr ⟨_, rfl⟩))))]; exact e⟩, fun a hm ps => ?_⟩
  · rw [hidC_out fun z => by rw [fF b z] at e; cases e]; exact ok.sub b o e
  · rw [hidC_out fun z => fρ a z hm]; exact ok.dom a hm
  · have hm := List.mem_of_getElem? e1
    exact (ok.obj i a o e1 e2).mono (SubH.refl F) (fun z => z) fun u z => by rw [hidC_out fun y => fρ a y hm]; exact z
  · rw [hidC_out fun z => fρ a z hm]; exact ok.notab a hm ps
theorem post_put (p : Post F ρ (hidC cl H) F' ρ' H') (ok : StOk K F' ρ' μ' H') (c : CelH cl H) (n : ∀ b, inC cl b → H' b = none) (fρ : ∀ b, inC cl b → b ∉ ρ) : Post F ρ H F' ρ' (putC cl H H') ∧ StOk K F' ρ' μ' (putC cl H H') ∧ (∀ b, inC cl b → F' b = none) ∧ ∀ b, inC cl b → b ∉ ρ' := by
  have nF : ∀ b, inC cl b → F' b = none := fun b hb => by
    cases z : F' b with
    | none => rfl
    | some o => have y := ok.sub b o z; rw [n b hb] at y; cases y
  have nρ : ∀ b, inC cl b → b ∉ ρ' := fun b hb hm => ok.dom b hm (n b hb)
  refine ⟨⟨p.le, p.pre, fun b h => ?_, fun b o e nm => ?_, fun b hb hn => ?_⟩, ⟨fun b o e => ?_, ok.len, ok.nd, fun a hm => ?_, fun i a o e1 e2 => ?_, ok.tabs.ext (SubH.refl F') fun b ps f e => ⟨f, ?_⟩, fun a hm ps => ?_⟩, nF, nρ⟩
  · by_cases hb : inC cl b
    · exact absurd (nF b hb) h
    · have := p.new b h
      rw [hidC_out hb] at this
      exact this
  · by_cases hb : inC cl b
    · exact .inl (by rw [putC_in hb]; exact e)
    · rw [putC_out hb]
      exact p.keepT b o (by rw [hidC_out hb]; exact e) nm
  · have z := p.fresh b hb hn
    by_cases hc : inC cl b
    · exact absurd hb (nρ b hc)
    · rw [hidC_out hc] at z; exact z
  · rw [putC_out fun z => by rw [nF b z] at e; cases e]; exact ok.sub b o e
  · rw [putC_out fun z => nρ a z hm]; exact ok.dom a hm
  · have hm := List.mem_of_getElem? e1
    exact (ok.obj i a o e1 e2).mono (SubH.refl F') (fun z => z) fun u z => by rw [putC_out fun y => nρ a y hm]; exact z
  · rw [putC_out fun z => by rw [n b z] at e; cases e]; exact e
  · rw [putC_out fun z => nρ a z hm]; exact ok.notab a hm ps
end
end Dl
namespace Dl
open PySem PySem.Spec PyProof.Rows L2
variable [TheW]
/-- what the maker's cells hold, as an entry tells it -/
structure EnC (K : PySem.W.Frag) (n : En) (cl : List (Str × Addr)) (cs : List (Str × D)) : Prop where
  cel : CelH cl n.H
  inj : ∀ x y c, cl.lookup x = some c → cl.lookup y = some c → x = y
  fF : ∀ b, inC cl b → n.F b = none
  fρ : ∀ b, inC cl b → b ∉ n.ρ
  val : ∀ x d, (x, d) ∈ cs → ∃ c o u v, cl.lookup x = some c ∧ n.H c = some (exactO c o) ∧ o.data = .cell (some u) ∧ RelV v u ∧ Rep K n.F d v
theorem lookup_in {cl : List (Str × Addr)} {x : Str} {c : Addr} (h : cl.lookup x = some c) : inC cl c := List.mem_filterMap.mpr ⟨(x, c), PySem.mem_of_lookup h, h⟩
theorem in_lookup {cl : List (Str × Addr)} {c : Addr} (h : inC cl c) : ∃ x, cl.lookup x = some c := by
  obtain ⟨p, _, e⟩ := List.mem_filterMap.mp h
  exact ⟨p.1, e⟩
theorem exact_ntbl {b : Addr} {o : Obj} (ps : Array Value) : exactO b o ≠ .tbl ps := fun z => by unfold exactO at z; cases z
theorem EnC.post {K : PySem.W.Frag} {n : En} {cl : List (Str × Addr)} {cs : List (Str × D)} (e : EnC K n cl cs) {F : Hp} {ρ : List Addr} {H : Hp} (p : Post n.F n.ρ n.H F ρ H) : EnC K ⟨F, ρ, H⟩ cl cs where
  cel := fun b hb => by
    obtain ⟨o, u, h1, h2⟩ := e.cel b hb
    exact ⟨o, u, p.keep b _ h1 (e.fρ b hb) exact_ntbl, h2⟩
  inj := e.inj
  fF := fun b hb => by
    show F b = none
    cases z : F b with
    | none => rfl
    | some o =>
      obtain ⟨o', u, h1, _⟩ := e.cel b hb
      rcases p.new b (by rw [z]; simp) with h | h | h
      · exact absurd (e.fF b hb) h
      · rw [h1] at h; cases h
      · exact absurd h (e.fρ b hb)
  fρ := fun b hb hm => by
    obtain ⟨o', u, h1, _⟩ := e.cel b hb
    have := p.fresh b hm (e.fρ b hb)
    rw [h1] at this; cases this
  val := fun x d hm => by
    obtain ⟨c, o, u, v, h1, h2, h3, h4, h5⟩ := e.val x d hm
    exact ⟨c, o, u, v, h1, p.keep c _ h2 (e.fρ c (lookup_in h1)) exact_ntbl, h3, h4, Rep.sub p.le _ _ h5⟩
theorem EnC.vw {K : PySem.W.Frag} {F H : Hp} {ρ : List Addr} {cl : List (Str × Addr)} {cs : List (Str × D)} (e : EnC K ⟨F, ρ, H⟩ cl cs) {ls : List Nat} (hl : ∀ l ∈ ls, l < ρ.length) : EnC K ⟨F, Dl.vw ρ ls, H⟩ cl cs where
  cel := e.cel
  inj := e.inj
  fF := e.fF
  fρ := fun b hb hm => by
    obtain ⟨l, h1, h2⟩ := List.mem_map.mp hm
    exact e.fρ b hb (by rw [← h2]; exact List.mem_of_getElem? (getD_of (hl l h1)))
  val := e.val
abbrev lamV (l : LamC) (cl : List (Str × Addr)) (L f c' : Addr) : Env := PySem.W.envX l.q l.scope L f (.ref c') (cloFrom cl l.scope.names [])
def lamCxD (P : Program) (w : World) (K : PySem.W.Frag) (mg : Str → Option Value) (base : Heap) (N : List Str) (l : LamC) (cl : List (Str × Addr)) (f c' : Addr) (A : Around) (outer : List Env) (s : Shared) (H : Hp) (E : XK) : Cx where
  prog := P
  w := w
  K := K
  mg := mg
  base := base
  A := A.deeper (lamV l cl s.heap.objs.size f c')
  N := N
  s_0 := s
  H_0 := H
  env := lamV l cl s.heap.objs.size f c'
  outer := outer
  stack := lamV l cl s.heap.objs.size f c' :: outer
  ex := []
  fn := fun _ => false
  calm := true
  pn := []
  xe := fun e s' => wpAny (model P w) (A.deeper (lamV l cl s.heap.objs.size f c')) (leaving (lamV l cl s.heap.objs.size f c') e) (fun _ s'' => L2.CX P w outer H s E e s'') (fun e' s'' => L2.CX P w outer H s E e' s'') s'
/-- a lambda's body, verified: N are the captured names that it reads -/
structure LamD (P : Program) (w : World) (K : PySem.W.Frag) (mg : Str → Option Value) (base : Heap) (k : Nat) (l : LamC) (N : List Str) (wb : DE) : Prop where
  kind : l.scope.kind = .function
  co : l.scope.isCoroutine = false
  gen : l.scope.isGenerator = false
  ncell : ∀ y ∈ l.scope.names, y.2 ≠ .cell
  free : ∀ x ∈ N, l.scope.names.lookup x = some .free
  bind : ∀ (s : Shared) (fd : FuncData) (H : Hp), HOk P w H s.heap → fd.params = l.params → fd.kwdefaults = .none → ((l.dfl = [] ∧ fd.defaults = .none) ∨ ∃ t, fd.defaults = .ref t ∧ H t = some (.tup (l.dfl.map V.int))) →
    ∃ binds, BindsTo s fd ⟨[], []⟩ binds ∧ ∀ y ∈ binds, l.scope.names.lookup y.1 = some .local
  body : ∀ (cl : List (Str × Addr)) (f c' : Addr) (A : Around) (outer : List Env) (s : Shared) (H : Hp) (E : XK) (n : En), Room k (A.deeper (lamV l cl s.heap.objs.size f c')) → PD (lamCxD P w K mg base N l cl f c' A outer s H E) n l.body wb
section
variable {P : Program} {w : World} {K : PySem.W.Frag} {mg : Str → Option Value} {base : Heap} {l : LamC} {N : List Str} {cl : List (Str × Addr)} {f c' : Addr} {A : Around} {outer : List Env} {s : Shared} {H : Hp} {E : XK}
theorem lam_start {k : Nat} {wb : DE} {h₁ : Heap} {tk : Nat} {m : Str → Option Value} {vs : List V} (D : LamD P w K mg base k l N wb) (e0 : Env0 P w K mg base A outer s H) (hd : A.handled = none) (hH : ∀ b, inC cl b → H b = none)
    (inj : ∀ x y c, cl.lookup x = some c → cl.lookup y = some c → x = y) (hfree : ∀ y ∈ l.scope.names, y.2 = .free → ∃ c, cl.lookup y.1 = some c) (cell : ∀ x c, cl.lookup x = some c → ∃ v, s.heap.IsCell c v) (hl : vs.length = N.length)
    (val : ∀ (i : Nat) (x : Str), N[i]? = some x → ∃ (c : Addr) (u : Value) (v : V), vs[i]? = some v ∧ RelV v u ∧ cl.lookup x = some c ∧ s.heap.IsCell c (some u)) (hns : h₁.Ns s.heap.objs.size m) (kp : ∀ b o, s.heap.get? b = some o → h₁.get? b = some o) :
    Inv (lamCxD P w K mg base N l cl f c' A outer s H E) [] (L2.start N vs) H { s with heap := h₁, toks := tk } := by
  have cm : ∀ {y c}, (cloFrom cl l.scope.names []).lookup y = some c → cl.lookup y = some c := fun {y c} e => by
    rcases cloFrom_mem (PySem.mem_of_lookup e) with hm | ⟨h1, h2⟩
    · cases hm
    · obtain ⟨c1, hc⟩ := hfree _ h1 rfl
      have hc : cl.lookup y = some c1 := hc
      have e2 : c = c1 := by rw [h2, hc]; rfl
      rw [e2]; exact hc
  have look : ∀ {y}, l.scope.names.lookup y = some .free → ∃ c, (cloFrom cl l.scope.names []).lookup y = some c := fun {y} hl => by
    have hy : (y, NameKind.free) ∈ l.scope.names := PySem.mem_of_lookup hl
    exact mem_lookup (cloFrom_has (cells := cl) (acc := []) hy)
  have noA : ∀ b : Addr, b ∉ (lamCxD P w K mg base N l cl f c' A outer s H E).ex := fun b z => absurd (show b ∈ ([] : List Addr) from z) (by simp)
  refine ⟨⟨e0.mod, D.kind, rfl, rfl, Nat.le_refl _, fun y z c e1 e2 => inj y z c (cm e1) (cm e2), fun y hy => ?_, fun y c z _ => ?_, fun _ => hd, Around.frames_deeper e0.frames, .inr ⟨rfl, rfl⟩, fun b z => absurd z (noA b), e0.bs, e0.bsz, fun b _ _ => noA b,
      fun b z => absurd z (noA b), e0.funs, e0.frf⟩,
    rfl, e0.bare, Un.kept kp, ⟨_, hns, fun i y v e1 e2 e3 => ?_⟩, fun y c e => ?_, e0.hok.fresh (Nat.le_refl _), fun y c e => hH c (lookup_in (cm e)), fun q hq => absurd (show q ∈ ([] : List (Addr × Obj)) ++ [] from hq) (by simp), e0.hok.kept kp, ?_⟩
  · have hy : l.scope.names.lookup y = some .cell ∨ l.scope.names.lookup y = some .free := hy
    rcases hy with hy | hy
    · exact absurd rfl (D.ncell _ (PySem.mem_of_lookup hy))
    · exact look hy
  · have z : false = true := z
    cases z
  · have e1 : N[i]? = some y := e1
    obtain ⟨c, u, v', h1, h2, h3, h4⟩ := val i y e1
    have hi : i < vs.length := (List.getElem?_eq_some_iff.mp h1).1
    have ev : v = v' := by
      unfold L2.start at e2
      rw [List.getElem?_append_left (by simpa using hi), List.getElem?_map, h1] at e2
      have e2 : some v' = some v := by simpa using e2
      exact (Option.some.inj e2).symm
    subst ev
    have hfr := D.free y (List.mem_of_getElem? e1)
    obtain ⟨c2, hc2⟩ := look hfr
    have := cm hc2
    rw [h3] at this
    cases this
    exact ⟨u, h2, .inr ⟨.inr hfr, c, hc2, h4.keeps kp⟩⟩
  · obtain ⟨v, z⟩ := cell y c (cm e)
    exact ⟨v, z.keeps kp⟩
  · unfold L2.start
    show _ = N.length
    rw [List.length_append, List.length_map, List.length_replicate]
    omega
end
/-- the lambdas that may come: their text, their names, their readings -/
abbrev LamT := List (LamC × List Str × DE)
structure actP (cl : List (Str × Addr)) (cs : List (Str × D)) (T : LamT) (v : W) (st : Dst) (Q : DQ) (E : DX) : Prop where
  ex : ∃ (e : LamC × List Str × DE) (ds : List D), e ∈ T ∧ v = .d (.lamR e.1 cl) ∧ ds.length = e.2.1.length ∧ (∀ (i : Nat) (x : Str), e.2.1[i]? = some x → ∃ d, ds[i]? = some d ∧ (x, d) ∈ cs) ∧
    e.2.2 ⟨startD e.2.1.length (ds.map W.d), st.μ⟩ (fun w st' => Q w { st with μ := st'.μ }) (fun x st' => E x { st with μ := st'.μ })
def wAct (cl : List (Str × Addr)) (cs : List (Str × D)) (T : LamT) (we : DE) : DE := fun st Q E => we st (fun v st1 => actP cl cs T v st1 Q E) E
theorem vals_get {K : PySem.W.Frag} {n : En} {cl : List (Str × Addr)} {cs : List (Str × D)} {h : Heap} {P : Program} {w : World} (e : EnC K n cl cs) (hok : HOk P w n.H h) : ∀ {N : List Str} {ds : List D}, ds.length = N.length → (∀ (i : Nat) (x : Str), N[i]? = some x → ∃ d, ds[i]? = some d ∧ (x, d) ∈ cs) →
    ∃ vs : List V, vs.length = N.length ∧ RepL K n.F ds vs ∧ ∀ (i : Nat) (x : Str), N[i]? = some x → ∃ (c : Addr) (u : Value) (v : V), vs[i]? = some v ∧ RelV v u ∧ cl.lookup x = some c ∧ h.IsCell c (some u)
  | [], [], _, _ => ⟨[], rfl, RepL.nil, fun i x z => by simp at z⟩
  | x :: N, d :: ds, hl, hv => by
    obtain ⟨vs, l1, r1, g1⟩ := vals_get e hok (N := N) (ds := ds) (by simpa using hl) fun i y z => by
      have := hv (i + 1) y (by simpa using z)
      simpa using this
    obtain ⟨d', e1, hm⟩ := hv 0 x rfl
    have e1 : some d = some d' := e1
    cases e1
    obtain ⟨c, o, u, v, h1, h2, h3, h4, h5⟩ := e.val x d hm
    have z : ObjOk P w n.H h c (exactO c o) := hok c _ h2
    refine ⟨v :: vs, by simp [l1], RepL.cons h5 r1, fun i y q => ?_⟩
    cases i with
    | zero =>
      have q : some x = some y := q
      cases q
      exact ⟨c, u, v, rfl, h4, h1, o, z.1, h3⟩
    | succ i => 
      have := g1 i y (by simpa using q)
      simpa using this
section
variable {X : Cx} {n : En} {a : Str} {i k : Nat} {cl : List (Str × Addr)} {cs : List (Str × D)} {T : LamT} {p1 p2 : Pos}
theorem pd_act (en : EnC X.K n cl cs) (hT : ∀ e ∈ T, LamD X.prog X.w X.K X.mg X.base k e.1 e.2.1 e.2.2) (hF : ∀ e ∈ T, ∀ y ∈ e.1.scope.names, y.2 = .free → ∃ c, cl.lookup y.1 = some c) (hr : Room (k + 1) X.A) {we : DE} (he : PD X n (.Name a p1) we) :
    PD X n (.Call (.Name a p1) [] [] p2) (wAct cl cs T we) := by
  refine ⟨fun pins s σ H F ρ st Q E I R tk hw => ?_⟩
  refine wpAny_Call_Name_kw (thn (he.run pins s σ H F ρ st _ E I R tk hw) fun u s1 ⟨v, w1, st1, H1, F1, ρ1, I1, rv, p1', R1, r1, h1⟩ => ?_)
  obtain ⟨⟨l, N, wb⟩, ds, hm, rfl, hl, hv, hwb⟩ := h1.ex
  have D := hT _ hm
  have hfree := hF _ hm
  have r1 : Rep X.K F1 (.lamR l cl) v := r1
  unfold Rep at r1
  obtain ⟨f, fd, rfl, L⟩ := r1
  obtain rfl : u = Value.ref f := rv
  have en1 : EnC X.K ⟨F1, ρ1, H1⟩ cl cs := en.post R1.po
  have of1 : s1.heap.get? f = some { cls := .type "function", data := .func fd } := by
    have x : ObjOk X.prog X.w H1 s1.heap f (exactO f _) := I1.hok f _ (R1.ok.sub _ _ L.obj)
    exact x.1
  have cel : CelH cl H1 := en1.cel
  have frf := I1.env0.frf
  have e0 : Env0 X.prog X.w X.K X.mg X.base X.A X.stack s1 (hidC cl H1) := by
    have z := I1.env0
    exact ⟨z.frames, z.mod, fun b o e => ⟨(z.bs b o e).1, by unfold hidC; split; rfl; exact (z.bs b o e).2⟩, z.bsz, z.funs, fun b hb => by unfold hidC; split; rfl; exact z.frf b hb, hok_hid z.hok cel, z.bare⟩
  obtain ⟨vs, hvl, rvs, gvs⟩ := vals_get (n := ⟨F1, ρ1, H1⟩) en1 I1.hok hl hv
  obtain ⟨binds, hbd, hbl⟩ := D.bind s1 fd H1 I1.hok L.par L.kwd (L.dfl.imp id fun ⟨t, a, b⟩ => ⟨t, a, R1.ok.sub _ _ b⟩)
  obtain ⟨c', ec, fc⟩ := L.code
  have crec : s1.heap.CodeRec fd.code fd.qualname := by
    have x : ObjOk X.prog X.w H1 s1.heap c' (LamX.CodeO c' l.q) := I1.hok c' _ (R1.ok.sub _ _ fc)
    obtain ⟨⟨oc, vs, t, h1, h2, h3⟩, _, _⟩ := x
    exact ⟨c', oc, vs, t, ec, h1, h2, by rw [L.qual]; exact h3⟩
  refine PySem.W.callWith_F0 ⟨_, _, _, _, of1⟩ ?_
  have rc0 : codeAny (model X.prog X.w) X.A (.call (.ref f) ⟨[], []⟩) (CR (L2.CX X.prog X.w) X.stack X.prog X.w (hidC cl H1) s1
      (fun v H' => ∃ (w' : W) (st' : Dst) (F' : Hp) (ρ' : List Addr), Post F1 ρ1 (hidC cl H1) F' ρ' H' ∧ StOk X.K F' ρ' st'.μ H' ∧ RepW X.K F' ρ' w' v ∧ Q w' ⟨st1.δ, st'.μ⟩)
      (fun cls d H' => ∃ (x : Ex) (st' : Dst) (F' : Hp) (ρ' : List Addr), Post F1 ρ1 (hidC cl H1) F' ρ' H' ∧ StOk X.K F' ρ' st'.μ H' ∧ ExRep X.K F' x cls d H' ∧ E x ⟨st1.δ, st'.μ⟩)) s1 := by
    have Lsc := L.scope
    have Lcl := L.clos
    have Lgl := L.glob
    have Lbl := L.blt
    have Lq := L.qual
    refine PySem.W.kla_callFunE hr.depth of1 rfl (by rw [Lsc]; exact D.co) (by rw [Lsc]; exact D.gen) L.body crec ?_
    refine hbd _ _ _ _ ?_
    rw [Lsc, Lcl, Lgl, Lbl, Lq, ec]
    refine wpAny_newFunctionEnv D.ncell hbl (fun h₁ hns hsb => ⟨I1.nolimit.fresh _ hsb, ?_⟩) D.kind
    show codeAny _ _ (.expr l.body (lamV l cl s1.heap.objs.size f c')) _ _
    have kp : ∀ b o, s1.heap.get? b = some o → h₁.get? b = some o := fun b o e => hsb.extBut b o (Nat.ne_of_lt (Heap.lt_size e)) (Heap.get?_push_of_some _ e)
    have J := lam_start (f := f) (c' := c') (E := fun cls d H' => ∃ (x : Ex) (st' : Dst) (F' : Hp) (ρ' : List Addr), Post F1 ρ1 (hidC cl H1) F' ρ' H' ∧ StOk X.K F' ρ' st'.μ H' ∧ ExRep X.K F' x cls d H' ∧ E x ⟨st1.δ, st'.μ⟩) (tk := s1.toks + binds.length) D e0 hr.hd (fun b hb => hidC_in hb) en1.inj hfree
      (fun x c hx => by
        obtain ⟨o, u, _, g, d⟩ := celH_get I1.hok cel (lookup_in hx)
        exact ⟨u, o, g, d⟩) hvl gvs hns kp
    refine PySem.W.kla_codeExpr (wpAny_mono ((D.body cl f c' X.A X.stack s1 (hidC cl H1) _ ⟨F1, ρ1, hidC cl H1⟩ (hr.deeper _)).run [] _ _ _ F1 ρ1 _ _ (fun x st' => E x ⟨st1.δ, st'.μ⟩) J (rl_start (N := N) (stOk_hid R1.ok cel en1.fF en1.fρ) (RepWL.toD rvs))
      ((takes_of (X := lamCxD X.prog X.w X.K X.mg X.base N l cl f c' X.A X.stack s1 (hidC cl H1) _) rfl rfl rfl rfl).imp fun cls d σ H' ⟨st', F', ρ', x, R, rx, z⟩ => ⟨x, st', F', ρ', R.po, R.ok, rx, z⟩) hwb) (fun v s' hq => ?_) fun e s' hq => hq)
    obtain ⟨v', w', st', H', F', ρ', J', rv, po, R', rw', q⟩ := hq
    exact ⟨v', H', J'.os, J'.bare, J'.base, J'.hok, rv, w', st', F', ρ', po, R'.ok, rw', q⟩
  refine wpAny_call (codeAny_mono rc0 fun r s' hq => ?_)
  cases r with
  | error e =>
    obtain ⟨a, B, H'', cls, d, e1, e2, e3, e4, e5, e6, e7, H', rfl, nn, x, st', F', ρ', po, ok, rx, q⟩ := cx_put cel I1.hok frf hq
    obtain ⟨P2, ok2, _, _⟩ := post_put po ok cel nn en1.fρ
    exact passAt tk σ pins H1 s1 e s' I1 ⟨a, B, _, cls, d, e1, e2, e3, e4, e5, e6, e7, ⟨st1.δ, st'.μ⟩, F', ρ', x, R1.step P2 ok2, rx, q⟩
  | ok fl =>
    cases fl with
    | ret u =>
      obtain ⟨v, H', os, bare, un, hok, rv, w', st', F', ρ', po, ok, rw', q⟩ := hq
      obtain ⟨nn, un', hok'⟩ := un_put cel I1.hok frf un hok
      obtain ⟨P2, ok2, _, _⟩ := post_put po ok cel nn en1.fρ
      obtain ⟨v2, H2, I2, r2, w2, st2, F2, ρ2, p2, R2, rw2, q2⟩ := I1.after (Q := qE X n σ F1 ρ1 H1 Q) ⟨v, _, os, bare, un', hok', rv, w', ⟨st1.δ, st'.μ⟩, F', ρ', P2, R1.step P2 ok2, rw', q⟩
      exact ⟨v2, w2, st2, H2, F2, ρ2, I2, r2, p1'.trans p2 R1.ok.dom, R2, rw2, q2⟩
    | next => exact False.elim hq
    | brk => exact False.elim hq
    | cont => exact False.elim hq
end
end Dl
namespace Dl
open PySem PySem.Spec PyProof.Rows L2
variable [TheW]
abbrev CSp := List (Str × Addr) → List (Str × D) → DSp
def SpDL (K : PySem.W.Frag) (m : Nat) (cl : List (Str × Addr)) (cs : List (Str × D)) (c : DSp) : Sp := fun vs H Q E => ∃ F ρ μ ws QD ED, StOk K F ρ μ H ∧ EnC K ⟨F, ρ, H⟩ cl cs ∧ RepWL K F ρ ws vs ∧ ws.length = m ∧ c ws μ QD ED ∧
  (∀ w μ' v F' ρ' H', QD w μ' → Post F ρ H F' ρ' H' → StOk K F' ρ' μ' H' → RepW K F' ρ' w v → Q v H') ∧ (∀ x μ' cls d F' ρ' H', ED x μ' → Post F ρ H F' ρ' H' → StOk K F' ρ' μ' H' → ExRep K F' x cls d H' → E cls d H')
abbrev HasC (hs : List Str) (cl : List (Str × Addr)) : Prop := ∀ y ∈ hs, ∃ a, cl.lookup y = some a
structure FnDL (P : Program) (w : World) (K : PySem.W.Frag) (mg : Str → Option Value) (base : Heap) (x : Str) (hs : List Str) (k m : Nat) (c : CSp) : Prop where
  ex : ∃ f fd ps, (∀ cl cs, HasC hs cl → FnOk P w K mg base (L2.CX P w) k f fd ps (SpDL K m cl cs (c cl cs))) ∧ mg x = some (.ref f) ∧ PySem.W.keepIn K (.ref f) = true ∧ Binds K fd ps []
section
variable {P : Program} {w : World} {K : PySem.W.Frag} {mg : Str → Option Value} {base : Heap} {x : Str} {st : Stmt} {N ps : List Str} {k m : Nat} {c : CSp} {hs : List Str} {wb : List (Str × Addr) → List (Str × D) → DS}
abbrev BodyDL (P : Program) (w : World) (K : PySem.W.Frag) (mg : Str → Option Value) (base : Heap) (x : Str) (st : Stmt) (N : List Str) (hs : List Str) (k : Nat) (wb : List (Str × Addr) → List (Str × D) → DS) : Prop :=
  ∀ (cl : List (Str × Addr)) (cs : List (Str × D)), HasC hs cl → ∀ (f : Addr) (cdv : Value) (A : Around) (outer : List Env) (s : Shared) (H : Hp) (E : XK) (n : En), EnC K n cl cs → Room k (A.deeper (envOfC x (defScope st) s.heap.objs.size f cdv)) → PSSD (cxD P w K mg base N x (defScope st) f cdv A outer s H E) n (defBody st) (wb cl cs)
theorem fnDL_of (D : Df K mg x st) (S : FnScope N ps (defScope st)) (hb : BodyDL P w K mg base x st N hs k wb)
    (hc : ∀ cl cs ws μ Q E, ws.length = ps.length → c cl cs ws μ Q E → wb cl cs { nx := fun st => Q (.d .non) st.μ, rt := Q, ex := fun x st => E x st.μ } ⟨startD N.length ws, μ⟩)
    (bd : ∀ (kV doc pm : Value) (an : Option Addr) (cdv ct : Value) (us : List Value), us.length = ps.length → bindArgs (PySem.W.fnOf x x (defArgs st) (defBody st) (defScope st) .none kV doc pm an cdv ct) ⟨us, []⟩ = pure (ps.zip us)) : FnDL P w K mg base x hs (k + 1) ps.length c := by
  obtain ⟨f, fd, F, hm⟩ := D.ex
  refine ⟨f, fd, ps, fun cl cs hh => ?_, hm, F.kp, F.bindsN bd⟩
  refine F.ok S (fun vs H Q E ⟨_, _, _, ws, _, _, _, _, r, hl, _⟩ => by rw [← r.len, hl]) fun cdv A outer s H vs Q E hr h => ?_
  obtain ⟨F0, ρ, μ, ws, QD, ED, ok, en, r, hl, h, hq, he⟩ := h
  refine ⟨_, (hb cl cs hh f cdv A outer s H E ⟨F0, ρ, H⟩ en hr).pss, ?_⟩
  have tk : TkD (cxD P w K mg base N x (defScope st) f cdv A outer s H E) ⟨F0, ρ, H⟩ (fun x st => ED x st.μ) :=
    (takes_of (X := cxD P w K mg base N x (defScope st) f cdv A outer s H E) rfl rfl rfl rfl).imp fun cls d σ H' ⟨st', F', ρ', x, R, rx, z⟩ => he x st'.μ cls d F' ρ' H' z R.po R.ok rx
  refine tS.use (DD := { nx := fun st => QD (.d .non) st.μ, rt := QD, ex := fun x st => ED x st.μ }) (rl_start (N := N) ok r) tk (hc cl cs ws μ QD ED hl h) (fun σ' H' F' ρ' st' p R z => hq _ _ .non F' ρ' H' z p R.ok rfl) (fun v w' H' F' ρ' μ' p p0 ok' rw z => hq _ _ v F' ρ' H' z p ok' rw)
    (fun _ _ _ _ _ _ _ z => z.elim) (fun _ _ _ _ _ _ _ z => z.elim)
end
section
variable {X : Cx} {n : En} {e : Expr} {es : List Expr} {wa : DA} {p pos : Pos} {x : Str} {k m : Nat} {c : CSp} {hs : List Str} {cl : List (Str × Addr)} {cs : List (Str × D)}
theorem call_spL {m : Nat} {c : DSp} {σ : L2.St} {H F : Hp} {ρ : List Addr} {st : Dst} {vs : List V} {ws : List W} {Q : DQ} {E : DX} (R : Rl X.K n F ρ st σ H) (en : EnC X.K n cl cs) (r : RepWL X.K F ρ ws vs) (hm : ws.length = m) (h : wFn c ws st Q E) {EX : XK}
    (hE : ∀ cls d H', (∃ st' F' ρ' x, Rl X.K n F' ρ' st' σ H' ∧ ExRep X.K F' x cls d H' ∧ E x st') → EX cls d H') :
    SpDL X.K m cl cs c vs H (fun v H' => ∃ w' st' F' ρ', Post F ρ H F' ρ' H' ∧ Rl X.K n F' ρ' st' σ H' ∧ RepW X.K F' ρ' w' v ∧ Q w' st') EX := by
  have hl : ∀ l ∈ locs ws, l < ρ.length := fun l hl => r.mem (mem_locs hl)
  refine ⟨F, vw ρ (locs ws), vwO st.μ (locs ws), ws.map (ren (locs ws)), _, _, R.ok.view (locs_nd ws) hl, (en.post R.po).vw hl, ren_rep hl r fun n z => locs_mem z, by simpa using hm, h.ap, fun w μ' v F' ρ' H' q p ok rw => ?_, fun x μ' cls d F' ρ' H' q p ok rx => ?_⟩
  · obtain ⟨t, e, P, ok2⟩ := view_back R.ok (locs_nd ws) hl p ok
    subst e
    exact ⟨_, _, F', ρ ++ t, P, R.step P ok2, by rw [← R.ok.len]; exact unren_rep hl rw, q⟩
  · obtain ⟨t, e, P, ok2⟩ := view_back R.ok (locs_nd ws) hl p ok
    exact hE cls d H' ⟨_, F', ρ ++ t, x, R.step P ok2, rx, q⟩
/-- from a def that got lambdas itself -/
theorem pd_calL (D : FnDL X.prog X.w X.K X.mg X.base x hs k m c) (en : EnC X.K n cl cs) (hh : HasC hs cl) (hr : Room k X.A) (hg : Gl X x) (ha : PAD X n (e :: es) wa) (hm : (e :: es).length = m := by rfl) (hdb : (x == ("__debug__" : Str)) = false := by decide)
    (he : starEach (e :: es) X.env = (false, eval e X.env) :: starEach es X.env := by rfl) (hpl : (backTo pos (starEach es X.env)).any (·.1) = false := by rfl) : PD X n (.Call (.Name x p) (e :: es) [] pos) (wCalN m (c cl cs) wa) := by
  obtain ⟨f, fd, ps, Fn, hmg, hk, hb⟩ := D.ex
  refine ⟨fun pins s σ H F ρ st Q E I R tk hw => ?_⟩
  refine wpAny_Call_Name_kw (ld_glob I hg hmg ?_ hdb)
  refine PySem.W.callWith_K (h₀ := X.base) I.ok.mod.kin hk (thn (ha.run pos pins s σ H F ρ st _ E I R tk hw) fun us s1 ⟨vs, ws, st1, H1, F1, ρ1, I1, r, p1, R1, rw, q⟩ => ⟨I1.kIn, ?_⟩) he hpl
  refine thn (run_fnS (Fn cl cs hh) hr hb (passAt tk σ) I1 r (call_spL R1 en rw q.1 q.2 fun cls d H' z => z)) fun u s2 ⟨v, H2, I2, r2, w', st', F', ρ', p2, R2, rw2, q2⟩ => ?_
  exact ⟨v, w', st', H2, F', ρ', I2, r2, p1.trans p2 R1.ok.dom, R2, rw2, q2⟩
/-- what its cells hold, as far as it is data -/
def csOf (ix : List (Str × Nat)) (δ : List (Option W)) : List (Str × D) := ix.filterMap fun p => match (δ[p.2]? : Option (Option W)) with
  | some (some (.d d)) => some (p.1, d)
  | _ => none
def trkC (cl : List (Str × Addr)) (h : Heap) (H : Hp) : Hp := fun b => if inC cl b then (h.get? b).map (exactO b) else H b
def wCalG (m : Nat) (ix : List (Str × Nat)) (cl : List (Str × Addr)) (c : CSp) (wa : DA) : DE := fun st Q E => wa st (fun ws st1 => ws.length = m ∧ wFn (c cl (csOf ix st1.δ)) ws st1 Q (fun _ _ => False)) E
theorem pd_calG {ix : List (Str × Nat)} (D : FnDL X.prog X.w X.K X.mg X.base x hs k m c) (hh : HasC hs X.env.cells) (hfn : ∀ y, X.fn y = true) (hix : ∀ q ∈ ix, X.N[q.2]? = some q.1 ∧ X.env.kindOf q.1 = some .cell) (hr : Room k X.A) (hg : Gl X x) (ha : PAD X n (e :: es) wa) (hm : (e :: es).length = m := by rfl) (hdb : (x == ("__debug__" : Str)) = false := by decide)
    (he : starEach (e :: es) X.env = (false, eval e X.env) :: starEach es X.env := by rfl) (hpl : (backTo pos (starEach es X.env)).any (·.1) = false := by rfl) : PD X n (.Call (.Name x p) (e :: es) [] pos) (wCalG m ix X.env.cells c wa) := by
  obtain ⟨f, fd, ps, Fn, hmg, hk, hb⟩ := D.ex
  refine ⟨fun pins s σ H F ρ st Q E I R tk hw => ?_⟩
  refine wpAny_Call_Name_kw (ld_glob I hg hmg ?_ hdb)
  refine PySem.W.callWith_K (h₀ := X.base) I.ok.mod.kin hk (thn (ha.run pos pins s σ H F ρ st _ E I R tk hw) fun us s1 ⟨vs, ws, st1, H1, F1, ρ1, I1, r, p1, R1, rw', hml, hap⟩ => ⟨I1.kIn, ?_⟩) he hpl
  generalize ecl : X.env.cells = cl at hh hap
  have cellOf : ∀ b, inC cl b → ∃ y o v, X.env.cells.lookup y = some b ∧ s1.heap.get? b = some o ∧ o.data = .cell v ∧ H1 b = none := fun b hb => by
    obtain ⟨y, hy⟩ := in_lookup hb
    rw [← ecl] at hy
    obtain ⟨v, o, ho, hd⟩ := I1.cell y b hy
    exact ⟨y, o, v, hy, ho, hd, I1.freeC y b hy⟩
  have tin : ∀ b, inC cl b → ∃ o v, s1.heap.get? b = some o ∧ o.data = .cell v ∧ trkC cl s1.heap H1 b = some (exactO b o) := fun b hb => by
    obtain ⟨y, o, v, _, ho, hd, _⟩ := cellOf b hb
    exact ⟨o, v, ho, hd, by unfold trkC; rw [if_pos hb, ho]; rfl⟩
  have tout : ∀ {b}, ¬ inC cl b → trkC cl s1.heap H1 b = H1 b := fun {b} hb => if_neg hb
  have nin : ∀ {b u}, H1 b = some u → ¬ inC cl b := fun {b u} e z => by
    obtain ⟨_, _, _, _, _, _, n0⟩ := cellOf b z
    rw [n0] at e; cases e
  have nF : ∀ b, inC cl b → F1 b = none := fun b hb => by
    obtain ⟨_, _, _, _, _, _, n0⟩ := cellOf b hb
    cases z : F1 b with
    | none => rfl
    | some u => have y := R1.ok.sub b u z; rw [n0] at y; cases y
  have nρ : ∀ b, inC cl b → b ∉ ρ1 := fun b hb hm => by
    obtain ⟨_, _, _, _, _, _, n0⟩ := cellOf b hb
    exact R1.ok.dom b hm n0
  have above : ∀ b, inC cl b → X.s_0.heap.objs.size ≤ b := fun b hb => by
    obtain ⟨y, o, v, hy, _, _, _⟩ := cellOf b hb
    exact I1.ok.cab y b (hfn y) hy
  have nfr : ∀ b ∈ frs X.stack, ¬ inC cl b := fun b hb z => by
    obtain ⟨y, o, v, hy, ho, hd, _⟩ := cellOf b z
    rcases List.mem_cons.mp (I1.stkSub b hb) with e | e
    · obtain ⟨m', ⟨oL, es', ep, hL, hdL, _⟩, _⟩ := I1.loc
      rw [← e, ho] at hL
      cases hL
      rw [hd] at hdL
      cases hdL
    · obtain ⟨_, o', ho', _⟩ := I1.ok.funs.mem e
      exact absurd (Nat.lt_of_lt_of_le (Heap.lt_size ho') (above b z)) (Nat.lt_irrefl _)
  have okT : StOk X.K F1 ρ1 st1.μ (trkC cl s1.heap H1) := by
    refine ⟨fun b o e => ?_, R1.ok.len, R1.ok.nd, fun a hm => ?_, fun i a o e1 e2 => ?_, R1.ok.tabs.ext (SubH.refl F1) fun b ps f e => ⟨f, by rw [tout (nin e)]; exact e⟩, fun a hm ps => ?_⟩
    · have e2 := R1.ok.sub b o e
      rw [tout (nin e2)]; exact e2
    · rw [tout fun z => nρ a z hm]; exact R1.ok.dom a hm
    · have hm := List.mem_of_getElem? e1
      exact (R1.ok.obj i a o e1 e2).mono (SubH.refl F1) (fun z => z) fun u z => by rw [tout fun y => nρ a y hm]; exact z
    · rw [tout fun z => nρ a z hm]; exact R1.ok.notab a hm ps
  have hokT : HOk X.prog X.w (trkC cl s1.heap H1) s1.heap := fun b o e => by
    by_cases hb : inC cl b
    · obtain ⟨o', v, ho, hd, ht⟩ := tin b hb
      rw [ht] at e
      cases e
      exact ⟨ho, ⟨_, ho⟩, fun h1 h2 z q => q _ z⟩
    · rw [tout hb] at e
      exact (I1.hok b o e).stay (fun _ _ _ q => q) (fun d q => by rw [tout (nin q)]; exact q) fun d xs q => by rw [tout (nin q)]; exact q
  have e0 : Env0 X.prog X.w X.K X.mg X.base X.A X.stack s1 (trkC cl s1.heap H1) := by
    have z := I1.env0
    refine ⟨z.frames, z.mod, fun b o e => ⟨(z.bs b o e).1, ?_⟩, z.bsz, z.funs, fun b hb => ?_, hokT, z.bare⟩
    · rw [tout fun y => ?_]
      · exact (z.bs b o e).2
      · have q := above b y
        exact absurd (Nat.lt_of_lt_of_le (Heap.lt_size (I1.ok.bs b o e).1) q) (Nat.lt_irrefl _)
    · rw [tout (nfr b hb)]; exact z.frf b hb
  have RT : Rl X.K ⟨F1, ρ1, trkC cl s1.heap H1⟩ F1 ρ1 st1 σ (trkC cl s1.heap H1) := ⟨okT, Post.refl _ _ _, R1.len, R1.slots⟩
  have en : EnC X.K ⟨F1, ρ1, trkC cl s1.heap H1⟩ cl (csOf ix st1.δ) := by
    refine ⟨fun b hb => ?_, fun y z c h1 h2 => I1.ok.inj y z c (by rw [ecl]; exact h1) (by rw [ecl]; exact h2), nF, nρ, fun y d hm => ?_⟩
    · obtain ⟨o, v, _, hd, ht⟩ := tin b hb
      exact ⟨o, v, ht, hd⟩
    · obtain ⟨q, hq, e⟩ := List.mem_filterMap.mp hm
      split at e
      · rename_i d' hδ
        cases e
        obtain ⟨h1, h2⟩ := hix q hq
        obtain ⟨v, hσ, rv⟩ := R1.slots q.2 _ hδ
        obtain ⟨m', hn, hl⟩ := I1.loc
        obtain ⟨u, ru, look⟩ := hl q.2 q.1 v h1 hσ (.inr (.inl h2))
        rcases look with ⟨k1, _⟩ | ⟨_, c1, hc1, o, ho, hd⟩
        · rw [h2] at k1; cases k1
        · have hc2 : cl.lookup q.1 = some c1 := by rw [← ecl]; exact hc1
          obtain ⟨o', v', ho', _, ht⟩ := tin c1 (lookup_in hc2)
          rw [ho] at ho'
          cases ho'
          exact ⟨c1, o, u, v, hc2, ht, hd, ru, rv⟩
      · cases e
  have sp := call_spL (E := fun _ _ => False) (EX := fun _ _ _ => False) RT en rw' hml hap fun cls d H' ⟨_, _, _, _, _, _, z⟩ => z
  have Fn1 := Fn cl (csOf ix st1.δ) hh
  have hl : us.length = ps.length := by rw [← r.length]; exact Fn1.len _ _ _ _ sp
  have b := hb s1 us I1.kIn (by rw [List.append_nil]; exact hl)
  rw [List.append_nil] at b
  refine wpAny_call (codeAny_mono (Fn1.run X.A X.stack s1 _ ⟨us, []⟩ us vs _ _ hr e0 b r sp) fun r s' hq => ?_)
  cases r with
  | error e =>
    obtain ⟨_, _, _, _, _, _, _, _, _, _, _, _, z⟩ := hq
    exact z.elim
  | ok fl =>
    cases fl with
    | ret u =>
      obtain ⟨v, H', os, bare, un, hok, rv, w', st', F', ρ', po, R', rwv, q⟩ := hq
      have en' := en.post po
      have un' : Un (frs X.stack) [] H1 (hidC cl H') s1.heap s'.heap := by
        refine ⟨fun b o g n0 hf hx => ?_, fun b o g n0 hf hx => ?_, fun b o g n0 hx => ?_, fun b o g hx => un.there b o g hx, fun b xs e => ?_, fun b o u e => ?_, fun b ps e => ?_⟩
        · by_cases hc : inC cl b
          · obtain ⟨o', v', ho', _, ht⟩ := tin b hc
            rw [g] at ho'
            cases ho'
            have hk := po.keep b _ ht (nρ b hc) exact_ntbl
            have x : ObjOk X.prog X.w H' s'.heap b (exactO b o) := hok b _ hk
            exact x.1
          · exact un.keep b o g (by rw [tout hc]; exact n0) hf hx
        · exact un.slot b o g (by rw [tout (nfr b hf)]; exact n0) hf hx
        · by_cases hc : inC cl b
          · exact hidC_in hc
          · rw [hidC_out hc]; exact un.free b o g (by rw [tout hc]; exact n0) hx
        · rw [hidC_out (nin e)]; exact un.tups b xs (by rw [tout (nin e)]; exact e)
        · rw [hidC_out (nin e)]; exact un.frzs b o u (by rw [tout (nin e)]; exact e)
        · rw [hidC_out (nin e)]; exact un.tbls b ps (by rw [tout (nin e)]; exact e)
      have po' : Post F1 ρ1 H1 F' ρ' (hidC cl H') := by
        refine ⟨po.le, po.pre, fun b h => ?_, fun b o e nm => ?_, fun b hb hn => ?_⟩
        · rcases po.new b h with h | h | h
          · exact .inl h
          · by_cases hc : inC cl b
            · obtain ⟨_, _, _, _, ht⟩ := tin b hc; rw [ht] at h; cases h
            · exact .inr (.inl (by rw [tout hc] at h; exact h))
          · exact .inr (.inr h)
        · rw [hidC_out (nin e)]; exact po.keepT b o (by rw [tout (nin e)]; exact e) nm
        · have z := po.fresh b hb hn
          by_cases hc : inC cl b
          · obtain ⟨_, _, _, _, ht⟩ := tin b hc; rw [ht] at z; cases z
          · rw [tout hc] at z; exact z
      have ok' := stOk_hid R'.ok en'.cel en'.fF en'.fρ
      obtain ⟨v2, H2, I2, r2, w2, st2, F2, ρ2, p2, R2, rw2, q2⟩ := I1.after (Q := qE X n σ F1 ρ1 H1 Q) ⟨v, _, os, bare, un', hok_hid hok en'.cel, rv, w', st', F', ρ', po', ⟨ok', R1.po.trans po' R1.ok.dom, R'.len, R'.slots⟩, rwv, q⟩
      exact ⟨v2, w2, st2, H2, F2, ρ2, I2, r2, p1.trans p2 R1.ok.dom, R2, rw2, q2⟩
    | next => exact False.elim hq
    | brk => exact False.elim hq
    | cont => exact False.elim hq
end
end Dl
namespace Dl
open PySem PySem.Spec PyProof.Rows L2
variable [TheW]
section
variable {X : Cx} {n : En} {p : He.Defn} {params : Arguments} {body : Expr} {scope : Scope} {pos dpos : Pos} {i : Int} {j : Nat}
theorem pd_lamD (M : LamM X p) (hp : params.defaults = [.Constant (.int i) j dpos]) (hk0 : params.kw_defaults = []) (hfree : ∀ y ∈ scope.names, y.2 = .free → ∃ c, X.env.cells.lookup y.1 = some c) : PD X n (.Lambda params body scope pos) (wLam ⟨lamQ p, params, [i], body, scope⟩ X.env.cells) := by
  refine ⟨fun pins s σ H F ρ st Q E I R tk hw => ?_⟩
  refine PySem.W.kdv_lam (by rw [hp]; rfl) hk0 ?_
  rw [hp]
  refine PySem.W.kdv_all1 (wpAny_Constant_int (PySem.W.kdv_all0 ?_))
  rw [makeFunction_eq]
  simp only [List.zip_nil_right, List.filterMap_nil, List.isEmpty_nil, if_true, pure_bind, List.isEmpty_cons, Bool.false_eq_true, if_false]
  refine wpAny_bind (wpAny_newTextTuple ?_)
  rw [M.qual]
  have hsz : s.heap.objs.size ≤ s.heap.objs.size := Nat.le_refl _
  have I1 := I.laid (t' := s.toks + 1) (a := s.heap.objs.size) (o := .tup [.int i]) (h' := s.heap.push { cls := .type "tuple", data := .seq [Value.int i s.toks].toArray }) (fun b o e => Heap.get?_push_of_some _ e) hsz
    ⟨by rw [sizeLine_eq]; simp, [Value.int i s.toks], .cons ⟨_, rfl⟩ .nil, ⟨_, Heap.get?_push_size _ rfl, rfl, _, rfl⟩⟩
  have nf : H s.heap.objs.size = none := I.hok.fresh hsz
  have R1 := R.data (o := .tup [.int i]) nf
  have po := Post.data (ρ := ρ) (o := .tup [.int i]) R.ok.sub nf
  refine wpAny_mono (mkTail_D (E := X.xe) (Q := Q) (dfl := [i]) M I1 R1 hfree (.inr ⟨_, rfl, upd_same⟩) hw) (fun u s' ⟨v, w', st', H', F', ρ', I', r, a, b, c, d⟩ => ⟨v, w', st', H', F', ρ', I', r, po.trans a R1.ok.dom, b, c, d⟩) fun _ _ z => z
end
section
variable {P : Program} {w : World} {K : PySem.W.Frag} {mg : Str → Option Value} {base : Heap} {x y : Str} {st : Stmt} {N ps : List Str} {k m : Nat} {c : DSp} {wb : List (Str × Addr) → DS}
/-- the body of a def that makes lambdas -/
abbrev BodyL (P : Program) (w : World) (K : PySem.W.Frag) (mg : Str → Option Value) (base : Heap) (x : Str) (st : Stmt) (N : List Str) (k : Nat) (wb : List (Str × Addr) → DS) : Prop :=
  ∀ (f : Addr) (cdv : Value) (A : Around) (outer : List Env) (s : Shared) (H : Hp) (E : XK) (n : En), cdv = .ref (He.cT K (x, none)).1 → Room k (A.deeper (envOfC x (defScope st) s.heap.objs.size f cdv)) →
    PSSD (cxD P w K mg base N x (defScope st) f cdv A outer s H E) n (defBody st) (wb (envOfC x (defScope st) s.heap.objs.size f cdv).cells)
theorem ok_ofL {f : Addr} {fd : FuncData} (F : FunD K x x (defArgs st) (defBody st) (defScope st) [] [] f fd) (hf : f = He.fAd K (x, none)) (S : FnScope N ps (defScope st)) (hb : BodyL P w K mg base x st N k wb)
    (hc : ∀ cl ws μ Q E, ws.length = ps.length → c ws μ Q E → wb cl { nx := fun st => Q (.d .non) st.μ, rt := Q, ex := fun x st => E x st.μ } ⟨startD N.length ws, μ⟩) : FnOk P w K mg base (L2.CX P w) (k + 1) f fd ps (SpD K ps.length c) := by
  obtain ⟨oc, od, dV, kV, doc, pm, an, cdv, ct, osl, rfl, lk, hcd, _, _⟩ := F.ex
  obtain ⟨cc, rfl⟩ := He.codeIn_ref hcd
  subst hf
  have hcc : He.codeOf K (x, none) = cc := He.codeOf_eq (p := (x, none)) lk rfl
  refine fn_of lk hcd S (fun vs H Q E ⟨_, _, _, ws, _, _, _, r, hl, _⟩ => by rw [← r.len, hl]) fun A outer s H vs Q E hr h => ?_
  obtain ⟨F0, ρ, μ, ws, QD, ED, ok, r, hl, h, hq, he⟩ := h
  refine ⟨_, (hb _ (.ref cc) A outer s H E ⟨F0, ρ, H⟩ (by rw [← hcc]; rfl) hr).pss, ?_⟩
  have tk : TkD (cxD P w K mg base N x (defScope st) (He.fAd K (x, none)) (.ref cc) A outer s H E) ⟨F0, ρ, H⟩ (fun x st => ED x st.μ) :=
    (takes_of (X := cxD P w K mg base N x (defScope st) (He.fAd K (x, none)) (.ref cc) A outer s H E) rfl rfl rfl rfl).imp fun cls d σ H' ⟨st', F', ρ', x, R, rx, z⟩ => he x st'.μ cls d F' ρ' H' z R.po R.ok rx
  refine tS.use (DD := { nx := fun st => QD (.d .non) st.μ, rt := QD, ex := fun x st => ED x st.μ }) (rl_start (N := N) ok r) tk (hc _ ws μ QD ED hl h) (fun σ' H' F' ρ' st' p R z => hq _ _ .non F' ρ' H' z p R.ok rfl) (fun v w' H' F' ρ' μ' p p0 ok' rw z => hq _ _ v F' ρ' H' z p ok' rw)
    (fun _ _ _ _ _ _ _ z => z.elim) (fun _ _ _ _ _ _ _ z => z.elim)
theorem lawAt_ofL {l : PySem.W.OpenLaw} {fa : Addr} {h : Heap} {tf : List He.Defn} (D : Df K mg x st) (S : FnScope N [y] (defScope st)) (hfa : mg x = some (.ref fa)) (hga : mg x = some (.ref (He.fAd K (x, none))))
    (hb : ∀ base : Heap, K.In base → base.Ns mainGlobals mg → (∀ p ∈ tf, LamX.TabB base mg (He.cT K p).1 (He.cT K p).2) → BodyL l.prog w K mg base x st N k wb)
    (hw : ∀ cl ws μ Q E, ws.length = 1 → c ws μ Q E → wb cl { nx := fun st => Q (.d .non) st.μ, rt := Q, ex := fun x st => E x st.μ } ⟨startD N.length ws, μ⟩)
    (hc : ∀ xs : List Int, xs.length ≤ 63 → c [.scr xs] [] (fun w _ => w = .d (.bl true)) (fun _ _ => False))
    (KX : K.In h) (hd : ∀ p ∈ tf, PySem.W.codeHdIn K (He.cT K p).1 (He.cT K p).2 = true) (out : ∀ p ∈ tf, K.lookup (He.cT K p).2 = none) (emp : ∀ p ∈ tf, h.get? (He.cT K p).2 = some { cls := .none, data := .fields #[] })
    (tl : ∀ p ∈ lamDefs, PySem.W.codeHdIn K (He.cT K p).1 (He.cT K p).2 = true → p ∈ tf)
    (bd : ∀ (kV doc pm : Value) (an : Option Addr) (cdv ct : Value) (us : List Value), us.length = 1 → bindArgs (PySem.W.fnOf x x (defArgs st) (defBody st) (defScope st) .none kV doc pm an cdv ct) ⟨us, []⟩ = pure ([y].zip us)) :
    LamX.LawAtS l w K (L2.CX l.prog w) (k + 1) 63 y mg fa h := by
  obtain ⟨f, fd, F, hm⟩ := D.ex
  have e := hm.symm.trans hfa
  have e2 : f = He.fAd K (x, none) := by
    have z := Option.some.inj (hm.symm.trans hga)
    injection z
  cases e
  refine ⟨fd, tf.map (He.cT K), SpD K 1 c, fun p z => ?_, fun p z => ?_, fun p z => ?_, fun s v => F.bindsA (ps := [y]) bd s [v] rfl, fun H a ns hl _ hH hS => law_sp hc H a ns hl hS fun p hp e => hH _ (List.mem_map.mpr ⟨p, tl p hp e, rfl⟩), fun base hK hN htab => ?_⟩
  · obtain ⟨q, hq, rfl⟩ := List.mem_map.mp z; exact emp q hq
  · obtain ⟨q, hq, rfl⟩ := List.mem_map.mp z; exact out q hq
  · obtain ⟨q, hq, rfl⟩ := List.mem_map.mp z; exact PySem.W.codeHd_of_K KX (hd q hq)
  exact ok_ofL (ps := [y]) F e2 S (hb base hK hN fun p hp => htab _ (List.mem_map.mpr ⟨p, hp, rfl⟩)) hw
end
theorem bindL {l : LamC} {pn : List Str} (h0 : l.dfl = [] → ∀ (name qual : Str) (body : FuncBody) (sc : Scope) (gl bl : Addr) (clos : List (Str × Addr)) (doc pm cdv ct : Value) (an : Option Addr), bindArgs ⟨name, qual, l.params, body, sc, gl, clos, .none, .none, doc, pm, an, cdv, ct, bl⟩ ⟨[], []⟩ = pure [])
    (h1 : ∀ (t : Addr) (us : List Value), us.length = l.dfl.length → ∀ (name qual : Str) (body : FuncBody) (sc : Scope) (gl bl : Addr) (clos : List (Str × Addr)) (doc pm cdv ct : Value) (an : Option Addr), ∃ k, bindArgs ⟨name, qual, l.params, body, sc, gl, clos, .ref t, .none, doc, pm, an, cdv, ct, bl⟩ ⟨[], []⟩ = seqItems? (.ref t) >>= k ∧ k (some us.toArray) = pure (pn.zip us))
    (hp : ∀ y ∈ pn, l.scope.names.lookup y = some .local) {P : Program} {w : World} (s : Shared) (fd : FuncData) (H : Hp) (hok : HOk P w H s.heap) (e1 : fd.params = l.params) (e2 : fd.kwdefaults = .none)
    (e3 : (l.dfl = [] ∧ fd.defaults = .none) ∨ ∃ t, fd.defaults = .ref t ∧ H t = some (.tup (l.dfl.map V.int))) : ∃ binds, BindsTo s fd ⟨[], []⟩ binds ∧ ∀ y ∈ binds, l.scope.names.lookup y.1 = some .local := by
  obtain ⟨n1, n2, n3, n4, n5, n6, n7, n8, n9, n10, n11, n12, n13, n14, n15⟩ := fd
  obtain rfl : n3 = l.params := e1
  obtain rfl : n9 = .none := e2
  rcases e3 with ⟨hd, e⟩ | ⟨t, e, ht⟩
  · obtain rfl : n8 = .none := e
    exact ⟨[], .of_eq (h0 hd ..), fun y hy => by cases hy⟩
  · obtain rfl : n8 = .ref t := e
    have x : ObjOk P w H s.heap t (.tup (l.dfl.map V.int)) := hok t _ ht
    obtain ⟨_, its, r, o, ho, hc, nn, hd⟩ := x
    have hl : its.length = l.dfl.length := by rw [← r.length]; simp
    obtain ⟨k, k1, k2⟩ := h1 t its hl n1 n2 n4 n5 n6 n15 n7 n10 n11 n13 n14 n12
    exact ⟨_, .of_defaults rfl ho hd k1 k2, fun y hy => hp _ (List.of_mem_zip (show (y.1, y.2) ∈ _ from hy)).1⟩
end Dl
namespace Dl
open PySem PySem.Spec PyProof.Rows L2
inductive Nd where
  | s (x : Stmt) | e (x : Expr) | no
def ndS : Option Stmt → Nd
  | some x => .s x
  | none => .no
def ndE : Option Expr → Nd
  | some x => .e x
  | none => .no
def nBody (i : Nat) : Nd → Nd
  | .s (.FunctionDef _ _ b _ _ _ _ _ _ _) => ndS (b[i]? : Option Stmt)
  | .s (.For _ _ b _ _) => ndS (b[i]? : Option Stmt)
  | .s (.While _ b _ _) => ndS (b[i]? : Option Stmt)
  | .s (.If _ b _ _) => ndS (b[i]? : Option Stmt)
  | .s (.Try b _ _ _ _) => ndS (b[i]? : Option Stmt)
  | _ => .no
def nElse (i : Nat) : Nd → Nd
  | .s (.If _ _ b _) => ndS (b[i]? : Option Stmt)
  | _ => .no
def nV : Nd → Nd
  | .s (.Return (some v) _) => .e v
  | .s (.Assign _ v _) => .e v
  | .s (.Expr v _) => .e v
  | .s (.If v _ _ _) => .e v
  | .s (.While v _ _ _) => .e v
  | .s (.For _ v _ _ _) => .e v
  | .e (.UnaryOp _ v _) => .e v
  | .e (.Attribute v _ _) => .e v
  | .e (.Subscript v _ _) => .e v
  | _ => .no
def nF : Nd → Nd
  | .e (.Call f _ _ _) => .e f
  | _ => .no
def nA (i : Nat) : Nd → Nd
  | .e (.Call _ a _ _) => ndE (a[i]? : Option Expr)
  | .e (.List a _) => ndE (a[i]? : Option Expr)
  | .e (.Tuple a _ _) => ndE (a[i]? : Option Expr)
  | .e (.BoolOp _ a _) => ndE (a[i]? : Option Expr)
  | .e (.Compare _ _ a _) => ndE (a[i]? : Option Expr)
  | _ => .no
def nL : Nd → Nd
  | .e (.BinOp l _ _ _) => .e l
  | .e (.Compare l _ _ _) => .e l
  | .e (.IfExp t _ _ _) => .e t
  | _ => .no
def nR : Nd → Nd
  | .e (.BinOp _ _ r _) => .e r
  | .e (.IfExp _ b _ _) => .e b
  | _ => .no
def nO : Nd → Nd
  | .e (.IfExp _ _ o _) => .e o
  | _ => .no
def lamOf (q : Str) (d : List Int) (st : Stmt) : Nd → LamC
  | .e (.Lambda a b s _) => ⟨q, a, d, b, s⟩
  | _ => ⟨q, defArgs st, d, .Constant .none 0 ⟨0, 0, 0, 0⟩, defScope st⟩
variable [TheW]
theorem RmH.units {k : Nat} {A : Around} (r : RmH k A) : A.units + 64 < cLine := by have := r.un; omega
section
variable {X : Cx} {n : En} {a b : Expr} {pos : Pos}
theorem pd_eqH {wa wb : DE} {k : Nat} (hr : RmH k X.A) (ha : PD X n a wa) (hb : PD X n b wb) : PD X n (.Compare a [.Eq] [b] pos) (wOp oEq wa wb) := pd_cmp (op_eqD hr.units) ops_eq (nomark _) ha hb
theorem pd_neH {wa wb : DE} {k : Nat} (hr : RmH k X.A) (ha : PD X n a wa) (hb : PD X n b wb) : PD X n (.Compare a [.NotEq] [b] pos) (wOp oNe wa wb) := pd_cmp (op_neD hr.units) ops_ne (nomark _) ha hb
theorem ptd_eqH {wa wb : DE} {k : Nat} (hr : RmH k X.A) (ha : PD X n a wa) (hb : PD X n b wb) : PTD X n (.Compare a [.Eq] [b] pos) (wTest (wOp oEq wa wb)) := ptd_cmp (op_eqD hr.units) ops_eq (nomark _) ha hb
theorem ptd_neH {wa wb : DE} {k : Nat} (hr : RmH k X.A) (ha : PD X n a wa) (hb : PD X n b wb) : PTD X n (.Compare a [.NotEq] [b] pos) (wTest (wOp oNe wa wb)) := ptd_cmp (op_neD hr.units) ops_ne (nomark _) ha hb
end
end Dl
namespace Dl
open PySem PySem.Spec PyProof.Rows L2
theorem has_cells {q : Str} {sc : Scope} {L f : Addr} {cd : Value} {hs : List Str} (h : (hs.all fun y => decide (sc.names.lookup y = some .cell)) = true) : HasC hs (envOfC q sc L f cd).cells := fun y hy => cell_has (of_decide_eq_true (List.all_eq_true.mp h y hy))
theorem free_cells {q : Str} {sc sc2 : Scope} {L f : Addr} {cd : Value} (h : (sc2.names.all fun y => !decide (y.2 = .free) || decide (sc.names.lookup y.1 = some .cell)) = true) : ∀ y ∈ sc2.names, y.2 = .free → ∃ c, (envOfC q sc L f cd).cells.lookup y.1 = some c := fun y hy e => by
  have z := List.all_eq_true.mp h y hy
  rw [e] at z
  exact cell_has (of_decide_eq_true (by simpa using z))
theorem free_in {hs : List Str} {sc2 : Scope} (h : (sc2.names.all fun y => !decide (y.2 = .free) || decide (y.1 ∈ hs)) = true) : ∀ y ∈ sc2.names, y.2 = .free → y.1 ∈ hs := fun y hy e => by
  have z := List.all_eq_true.mp h y hy
  rw [e] at z
  exact of_decide_eq_true (by simpa using z)
theorem qual_law : (("law" : Str) ++ (".<locals>." : Str)) ++ ("<lambda>" : Str) = lamQ ("law", none) := by decide +kernel
variable [TheW]
theorem pd_lamF {X : Cx} {n : En} {p : He.Defn} {params : Arguments} {body : Expr} {scope : Scope} {pos : Pos} (M : LamM X p) (hdef : defaultsOf params X.env = ([], [])) (hfree : ∀ y ∈ scope.names, y.2 = .free → ∃ c, X.env.cells.lookup y.1 = some c) : PD X n (.Lambda params body scope pos) (wLam ⟨lamQ p, params, [], body, scope⟩ X.env.cells) := by
  refine ⟨fun pins s σ H F ρ st Q E I R tk hw => ?_⟩
  refine PySem.W.kla_eval hdef ?_
  rw [makeFunction_eq]
  simp only [List.zip_nil_right, List.filterMap_nil, List.isEmpty_nil, if_true, pure_bind]
  rw [M.qual]
  exact mkTail_D M I R hfree (.inl ⟨rfl, rfl⟩) hw
/-- a table of what is caught -/
def catB (K : PySem.W.Frag) (tbl : List Str) (cs : List Str) : Bool := tbl.all fun c => decide (PySem.W.exmAny K (.ref (He.ga K c)) (cs.map fun x => .ref (He.ga K x)) = some true)
theorem cat_ok {K : PySem.W.Frag} {tbl cs : List Str} (h : catB K tbl cs = true) : ∀ c ∈ tbl, PySem.W.exmAny K (.ref (He.ga K c)) (cs.map fun x => .ref (He.ga K x)) = some true := fun c hc => of_decide_eq_true (List.all_eq_true.mp h c hc)
end Dl
namespace Dl
open PySem PySem.Spec PyProof.Rows L2
section
variable {prog : Program} {w : World} {A : Around} {E : Value → Shared → Prop} {K : PySem.W.Frag} {C x f : Addr} {ox : Obj} {od : Option Obj}
theorem cs_ownK {s : Shared} {name : Str} {args : List Value} {Q : Option Value → Shared → Prop} (X : K.In s.heap) (J : PySem.W.InstAt s.heap x ox C od) (ha : PySem.W.findIn K (.ref C) name = some (some (.ref f))) (hf : PySem.W.isFn K (.ref f) = true)
    (hcall : wpAny (model prog w) A (call (.ref f) (.ref x :: args)) (fun v => Q (some v)) E s) : wpAny (model prog w) A (callSpecial? (.ref x) name args) Q E s := by
  obtain ⟨oI, hoI, hcI⟩ : ∃ oI, s.heap.get? f = some oI ∧ oI.cls = .type "function" := by
    obtain ⟨o, ho, hc⟩ := Option.map_eq_some_iff.mp (show (K.lookup f).map (·.cls) = some (.type "function") from beq_iff_eq.mp hf)
    exact ⟨o, X _ _ ho, hc⟩
  have sp : PySem.W.Looks (model prog w) s.heap (specialOf (.ref x) name) (some (.ref f)) := J.type.andThen (PySem.W.looks_findIn X ha)
  unfold callSpecial?
  refine wpAny_bind (sp.here ?_)
  refine wpAny_holding (wpAny_bind ((PySem.W.exc_bind hoI hcI (.ref x)).here ?_))
  first
    | exact wpAny_bind (wpAny_mono hcall (fun v s' h' => wpAny_pure h') fun _ _ h' => h')
    | exact wpAny_pure (wpAny_bind (wpAny_mono hcall (fun v s' h' => wpAny_pure h') fun _ _ h' => h'))
theorem len_ownK {s : Shared} {Q : Value → Shared → Prop} (X : K.In s.heap) (J : PySem.W.InstAt s.heap x ox C od) (ha : PySem.W.findIn K (.ref C) "__len__" = some (some (.ref f))) (hf : PySem.W.isFn K (.ref f) = true)
    (hcall : wpAny (model prog w) A.in1 (call (.ref f) [.ref x]) (fun r s' => ∃ n u, r = .int n u ∧ 0 ≤ n ∧ n < 2 ^ 63 ∧ Q (.int n s'.toks) { s' with toks := s'.toks + 1 }) E s) : wpAny (model prog w) A (call (.builtin "len") [.ref x]) Q E s := by
  refine Calls.call_function_entry kind_len plain_len entry_len (args_len1 _) ?_
  unfold Builtin.«len»
  refine wpAny_bind (m := oneArg "len" _) (wpAny_pure ?_)
  refine wpAny_bind (m := callSpecial? (.ref x) (Str.ofString "__len__")) (cs_ownK X J ha hf (wpAny_mono hcall (fun r s' hr => ?_) fun _ _ y => y))
  obtain ⟨n, u, rfl, h0, h1, hq⟩ := hr
  refine wpAny_bind (wpAny_holding (wpAny_pure ?_))
  refine wpAny_bind (wpAny_letGo ?_)
  show wpAny _ _ (if n < 0 then _ else _) _ _ _
  rw [if_neg (by omega)]
  show wpAny _ _ (if n ≥ 2 ^ 63 then _ else _) _ _ _
  rw [if_neg (by omega)]
  exact wpAny_bind (wpAny_mkInt (wpAny_pure ⟨_, rfl, hq⟩))
end
variable [TheW]
structure lenP (c : Str) (sp : DSp) (o : W) (st : Dst) (Q : DQ) : Prop where
  ob : ∃ ks vs, o = .d (.ins c ks vs)
  go : wFn sp [o] st (fun w st1 => ∃ k : Int, w = .d (.int k) ∧ 0 ≤ k ∧ k < 2 ^ 63 ∧ Q (.d (.int k)) st1) (fun _ _ => False)
def wLenO (c : Str) (sp : DSp) (wa : DE) : DE := fun st Q E => wa st (fun o st1 => lenP c sp o st1 Q) E
theorem pd_lenO {X : Cx} {n : En} {e : Expr} {pos pp : Pos} {cl : Str} {k : Nat} {sp : DSp} {wa : DE} (D : MtD X.prog X.w X.K X.mg X.base cl "__len__" k 1 sp) (hr : Room (k + 1) X.A) (hg : Gl X "len") (hm : X.mg "len" = none) (ha : PD X n e wa) (he : starEach [e] X.env = (false, eval e X.env) :: starEach [] X.env := by rfl) : PD X n (.Call (.Name "len" pp) [e] [] pos) (wLenO cl sp wa) := by
  obtain ⟨g, fd, ps, Fn, hc, hmt, hbd⟩ := D.ex
  refine ⟨fun pins s σ H F ρ st Q E I R tk hw => ?_⟩
  have hw : wCons wa wNil st (fun ws st1 => ∃ o, ws = [o] ∧ lenP cl sp o st1 Q) E := by
    refine (show wa st (fun o st1 => ∃ o', [o] = [o'] ∧ lenP cl sp o' st1 Q) E from ?_)
    have : (fun o st1 => ∃ o', [o] = [o'] ∧ lenP cl sp o' st1 Q) = fun o st1 => lenP cl sp o st1 Q := by
      funext o st1
      exact propext ⟨fun ⟨o', e, h⟩ => by cases e; exact h, fun h => ⟨o, rfl, h⟩⟩
    rw [this]
    exact hw
  refine wpAny_Call_Name_kw (ld_blt I hg hm (u := .builtin "len") (by decide +kernel) ?_ (by decide) (by decide))
  refine PyProof.Rows.callWith_builtin1 (thn ((pad_cons ha pad_nil he).run pos pins s σ H F ρ st _ E I R tk hw) fun us s1 ⟨vs, ws, st1, H1, F1, ρ1, I1, rv, p1, R1, rw1, h1⟩ => ?_) he rfl
  obtain ⟨o, rfl, h1⟩ := h1
  obtain ⟨ks, fs0, rfl⟩ := h1.ob
  obtain ⟨v, r, rfl, r1, rfl⟩ := rw1
  have q1 : Rep X.K F1 (.ins cl ks fs0) v := r1
  unfold Rep at q1
  obtain ⟨x, dx, fs, rfl, e1, e2, e3⟩ := q1
  obtain rfl := Vals.ref1 rv
  obtain ⟨mA, O, _, _, _, _⟩ := ins_get I1.hok (R1.ok.sub _ _ e1)
  obtain ⟨od, J, _⟩ := O.look
  refine len_ownK I1.kIn J hmt.at_ hmt.fn ?_
  refine thn (run_in1 (us := [.ref x]) (vs := [.ref x]) Fn hr hbd I1 (.cons rfl .nil) (call_sp (X := X) (n := n) (ws := [.d (.ins cl ks fs0)]) (EX := fun _ _ _ => False) R1 ⟨_, _, rfl, r1, rfl⟩ rfl h1.go fun cls d H' ⟨_, _, _, _, _, _, z⟩ => z)) fun u s3 ⟨v, H3, I3, r3, w', st', F', ρ', p3, R3, rw3, y, ew, h0, h63, q3⟩ => ?_
  subst ew
  obtain rfl := (show v = .int y from rw3)
  obtain ⟨t, rfl⟩ := r3
  exact ⟨y, t, rfl, h0, h63, .int y, .d (.int y), st', H3, F', ρ', I3.tok _, ⟨_, rfl⟩, p1.trans p3 R1.ok.dom, R3, rfl, q3⟩
end Dl
namespace Dl
open PySem PySem.Spec PyProof.Rows L2
/-- where a parameter's value comes from -/
inductive Sl where
  | p (i : Nat) | k (i : Nat) | t (i : Nat) (d : D) | w (i : Nat) (d : D)
def selV {α : Type} (us its mv ws : List α) : Sl → Option α
  | .p i => us[i]?
  | .k i => ws[i]?
  | .t i _ => its[i]?
  | .w i _ => mv[i]?
def selG {α : Type} (src : List Sl) (us its mv ws : List α) : List α := src.filterMap (selV us its mv ws)
def selW1 (us ws : List W) : Sl → Option W
  | .p i => us[i]?
  | .k i => ws[i]?
  | .t _ d => some (.d d)
  | .w _ d => some (.d d)
def selW (src : List Sl) (us ws : List W) : List W := src.filterMap (selW1 us ws)
theorem vals_opt {vs : List V} {us : List Value} (r : Vals vs us) (i : Nat) : (∃ v u, vs[i]? = some v ∧ us[i]? = some u ∧ RelV v u) ∨ (vs[i]? = none ∧ us[i]? = none) := by
  cases e : vs[i]? with
  | none => exact .inr ⟨rfl, Vals.none_of r e⟩
  | some v =>
    obtain ⟨u, e2, q⟩ := Vals.get r e
    exact .inl ⟨v, u, rfl, e2, q⟩
theorem selG_vals {vs ds mz zs : List V} {us its mv ws : List Value} (r1 : Vals vs us) (r2 : Vals ds its) (r3 : Vals mz mv) (r4 : Vals zs ws) : ∀ src, Vals (selG src vs ds mz zs) (selG src us its mv ws)
  | [] => .nil
  | s :: src => by
    have ih := selG_vals r1 r2 r3 r4 src
    have hs : (∃ v u, selV vs ds mz zs s = some v ∧ selV us its mv ws s = some u ∧ RelV v u) ∨ (selV vs ds mz zs s = none ∧ selV us its mv ws s = none) := by
      cases s with
      | p i => exact vals_opt r1 i
      | k i => exact vals_opt r4 i
      | t i _ => exact vals_opt r2 i
      | w i _ => exact vals_opt r3 i
    unfold selG at *
    rcases hs with ⟨v, u, e1, e2, q⟩ | ⟨e1, e2⟩
    · rw [List.filterMap_cons, List.filterMap_cons, e1, e2]; exact .cons q ih
    · rw [List.filterMap_cons, List.filterMap_cons, e1, e2]; exact ih
variable [TheW]
def slOk (K : PySem.W.Frag) (F : Hp) (n m : Nat) (dvs mvs : List V) : Sl → Prop
  | .p i => i < n
  | .k i => i < m
  | .t i d => ∃ v, dvs[i]? = some v ∧ Rep K F d v
  | .w i d => ∃ v, mvs[i]? = some v ∧ Rep K F d v
section
variable {K : PySem.W.Frag} {F : Hp} {ρ : List Addr}
theorem RepWL.getV : ∀ {ws : List W} {vs : List V} {i : Nat}, RepWL K F ρ ws vs → i < ws.length → ∃ w v, ws[i]? = some w ∧ vs[i]? = some v ∧ RepW K F ρ w v
  | [], _, i, _, h => absurd h (Nat.not_lt_zero i)
  | w :: ws, _, i, r, h => by
    obtain ⟨v, t, rfl, q, r⟩ := r
    cases i with
    | zero => exact ⟨w, v, rfl, rfl, q⟩
    | succ i =>
      obtain ⟨w', v', e1, e2, q'⟩ := RepWL.getV (i := i) r (by simpa using h)
      exact ⟨w', v', by simpa using e1, by simpa using e2, q'⟩
theorem selW_rep {us ws : List W} {vs zs dvs mvs : List V} {n m : Nat} (h1 : us.length = n) (h2 : ws.length = m) (r1 : RepWL K F ρ us vs) (r2 : RepWL K F ρ ws zs) : ∀ {src : List Sl}, (∀ s ∈ src, slOk K F n m dvs mvs s) → RepWL K F ρ (selW src us ws) (selG src vs dvs mvs zs)
  | [], _ => rfl
  | s :: src, h => by
    have ih := selW_rep h1 h2 r1 r2 (src := src) fun x hx => h x (List.mem_cons_of_mem _ hx)
    have hs := h s List.mem_cons_self
    have : ∃ w v, selW1 us ws s = some w ∧ selV vs dvs mvs zs s = some v ∧ RepW K F ρ w v := by
      cases s with
      | p i => exact r1.getV (by rw [h1]; exact hs)
      | k i => exact r2.getV (by rw [h2]; exact hs)
      | t i d =>
        obtain ⟨v, e, q⟩ := hs
        exact ⟨.d d, v, rfl, e, q⟩
      | w i d =>
        obtain ⟨v, e, q⟩ := hs
        exact ⟨.d d, v, rfl, e, q⟩
    obtain ⟨w, v, e1, e2, q⟩ := this
    unfold selW selG at *
    rw [List.filterMap_cons, List.filterMap_cons, e1, e2]
    exact ⟨v, _, rfl, q, ih⟩
end
/-- how a def binds what is written -/
structure BnW (K : PySem.W.Frag) (fd : FuncData) (ps : List Str) (n : Nat) (ks : List Str) (src : List Sl) : Prop where
  ex : ∃ g gV, KBn K fd ps n ks g gV ∧ ∀ (F : Hp) (ρ : List Addr) (us ws : List W) (vs zs : List V), us.length = n → ws.length = ks.length → RepWL K F ρ us vs → RepWL K F ρ ws zs → RepWL K F ρ (selW src us ws) (gV vs zs)
section
variable {P : Program} {w : World} {K : PySem.W.Frag} {mg : Str → Option Value} {base : Heap} {x qual : Str} {params : Arguments} {body : List Stmt} {scope : Scope} {dvs : List V} {kws : List (Str × V)} {f : Addr} {fd : FuncData} {ps : List Str}
theorem bnW_0 (F : FunD K x qual params body scope [] kws f fd) (n : Nat) (ks : List Str) (src : List Sl) (hs : ∀ F, ∀ s ∈ src, slOk K F n ks.length [] [] s)
    (h : ∀ (kV doc pm : Value) (an : Option Addr) (cdv ct : Value) (us ws : List Value), us.length = n → ws.length = ks.length → bindArgs (PySem.W.fnOf x qual params body scope .none kV doc pm an cdv ct) ⟨us, ks.zip ws⟩ = pure (ps.zip (selG src us [] [] ws))) : BnW K fd ps n ks src := by
  obtain ⟨oc, od, dV, kV, doc, pm, an, cdv, ct, osl, rfl, lk, hcd, hD, hK⟩ := F.ex
  rcases hD with ⟨_, rfl⟩ | ⟨e, _⟩
  · exact ⟨_, fun vs zs => selG src vs [] [] zs, ⟨fun s us ws _ l1 l2 => .of_eq (h kV doc pm an cdv ct us ws l1 l2), fun r1 r2 => selG_vals r1 .nil .nil r2 src⟩, fun F ρ us ws vs zs l1 l2 r1 r2 => selW_rep l1 l2 r1 r2 (hs F)⟩
  · exact absurd rfl e
theorem bnW_t (F : FunD K x qual params body scope dvs kws f fd) (hd : dvs ≠ []) (n : Nat) (ks : List Str) (src : List Sl) (hs : ∀ F, ∀ s ∈ src, slOk K F n ks.length dvs [] s)
    (h : ∀ (T : Addr) (kV doc pm : Value) (an : Option Addr) (cdv ct : Value) (us its ws : List Value), us.length = n → its.length = dvs.length → ws.length = ks.length →
      ∃ k, bindArgs (PySem.W.fnOf x qual params body scope (.ref T) kV doc pm an cdv ct) ⟨us, ks.zip ws⟩ = seqItems? (.ref T) >>= k ∧ k (some its.toArray) = pure (ps.zip (selG src us its [] ws))) : BnW K fd ps n ks src := by
  obtain ⟨oc, od, dV, kV, doc, pm, an, cdv, ct, osl, rfl, lk, hcd, hD, hK⟩ := F.ex
  rcases hD with ⟨e, _⟩ | ⟨_, T, o, its, m, rfl, lT, oT, rT⟩
  · exact absurd e hd
  · refine ⟨fun us ws => selG src us its [] ws, fun vs zs => selG src vs dvs [] zs, ⟨fun s us ws X l1 l2 => ?_, fun r1 r2 => selG_vals r1 rT .nil r2 src⟩, fun F ρ us ws vs zs l1 l2 r1 r2 => selW_rep l1 l2 r1 r2 (hs F)⟩
    obtain ⟨k, e1, e2⟩ := h T kV doc pm an cdv ct us its ws l1 rT.length.symm l2
    refine BindsTo.of_looks fun M => ?_
    rw [e1]
    exact looks_items X lT oT (.of_pure e2)
theorem bnW_w (ms : List (Str × V)) (F : FunD K x qual params body scope [] kws f fd) (hk : kws ≠ []) (hms : ∀ q ∈ ms, q ∈ kws) (n : Nat) (ks : List Str) (src : List Sl) (hs : ∀ F, ∀ s ∈ src, slOk K F n ks.length [] (ms.map (·.2)) s)
    (h : ∀ (D : Addr) (doc pm : Value) (an : Option Addr) (cdv ct : Value) (us mv ws : List Value), us.length = n → mv.length = ms.length → ws.length = ks.length →
      KwChain D ((ms.map (·.1)).zip mv) (bindArgs (PySem.W.fnOf x qual params body scope .none (.ref D) doc pm an cdv ct) ⟨us, ks.zip ws⟩) (ps.zip (selG src us [] mv ws))) : BnW K fd ps n ks src := by
  obtain ⟨oc, od, dV, kV, doc, pm, an, cdv, ct, osl, rfl, lk, hcd, hD, hK⟩ := F.ex
  rcases hD with ⟨_, rfl⟩ | ⟨e, _⟩
  · rcases hK with e | ⟨D, rfl, hq⟩
    · exact absurd e hk
    · obtain ⟨mv, hl, rk, hks⟩ := kwd_vals (ms := ms) fun q hm => hq q (hms q hm)
      refine ⟨fun us ws => selG src us [] mv ws, fun vs zs => selG src vs [] (ms.map (·.2)) zs, ⟨fun s us ws X l1 l2 => ?_, fun r1 r2 => selG_vals r1 .nil rk r2 src⟩, fun F ρ us ws vs zs l1 l2 r1 r2 => selW_rep l1 l2 r1 r2 (hs F)⟩
      exact BindsTo.of_looks fun M => KwChain.looks X hks (h D doc pm an cdv ct us mv ws l1 hl l2)
  · exact absurd rfl e
structure FnG (P : Program) (w : World) (K : PySem.W.Frag) (mg : Str → Option Value) (base : Heap) (x : Str) (k m n : Nat) (ks : List Str) (src : List Sl) (c : DSp) : Prop where
  ex : ∃ f fd ps, FnOk P w K mg base (L2.CX P w) k f fd ps (SpD K m c) ∧ mg x = some (.ref f) ∧ PySem.W.keepIn K (.ref f) = true ∧ BnW K fd ps n ks src
structure MtG (P : Program) (w : World) (K : PySem.W.Frag) (mg : Str → Option Value) (base : Heap) (c mn : Str) (k m n : Nat) (ks : List Str) (src : List Sl) (sp : DSp) : Prop where
  ex : ∃ f fd ps, FnOk P w K mg base (L2.CX P w) k f fd ps (SpD K m sp) ∧ Cls K (He.ga K c) ∧ Meth K (He.ga K c) mn f ∧ BnW K fd ps n ks src
structure MkG (P : Program) (w : World) (K : PySem.W.Frag) (mg : Str → Option Value) (base : Heap) (c : Str) (k m n : Nat) (ks : List Str) (src : List Sl) (sp : DSp) : Prop where
  ex : ∃ f fd ps, FnOk P w K mg base (L2.CX P w) k f fd ps (SpD K m sp) ∧ Mk K (He.ga K c) f ∧ mg c = some (.ref (He.ga K c)) ∧ BnW K fd ps n ks src
end
/-- the callee's promise for what is written -/
structure callX (n j m : Nat) (src : List Sl) (c : DSp) (us zs : List W) (st : Dst) (Q : DQ) (E : DX) : Prop where
  l1 : us.length = n
  l2 : zs.length = j
  l3 : (selW src us zs).length = m
  go : wFn c (selW src us zs) st Q E
def wCalX (n j m : Nat) (src : List Sl) (c : DSp) (wa wk : DA) : DE := fun st Q E => wa st (fun us st1 => wk st1 (fun zs st2 => callX n j m src c us zs st2 Q E) E) E
def wMetX (cl mn : Str) (n j m : Nat) (src : List Sl) (c : DSp) (wo : DE) (wa wk : DA) : DE := fun st Q E => wo st (fun o st1 => metP cl mn o st1.μ (wa st1 (fun us st2 => wk st2 (fun zs st3 => callX n j m src c (o :: us) zs st3 Q E) E) E)) E
/-- a maker: what is written is data -/
structure makeX (cl : Str) (n j m : Nat) (src : List Sl) (sp : DSp) (us zs : List W) (st : Dst) (Q : DQ) (E : DX) : Prop where
  l1 : us.length + 1 = n
  l2 : zs.length = j
  ex : ∃ ds es xs : List D, us = ds.map W.d ∧ zs = es.map W.d ∧ selW src (.loc 0 :: ds.map W.d) (es.map W.d) = .loc 0 :: xs.map W.d ∧ makeP cl sp m xs st Q E
def wMakX (cl : Str) (n j m : Nat) (src : List Sl) (sp : DSp) (wa wk : DA) : DE := fun st Q E => wa st (fun us st1 => wk st1 (fun zs st2 => makeX cl n j m src sp us zs st2 Q E) E) E
section
variable {X : Cx} {n : En} {e o : Expr} {es : List Expr} {pos p : Pos} {kwl : List Keyword}
theorem run_fnX {k i : Nat} {ks ps : List Str} {f : Addr} {fd : FuncData} {sp : Sp} {g : List Value → List Value → List Value} {gV : List V → List V → List V} {E : L2.St → XK} {pins : List (Addr × Obj)} {σ : L2.St} {H : Hp} {s : Shared} {Q : VK} {us ws : List Value} {vs zs : List V} (F : FnOk X.prog X.w X.K X.mg X.base (L2.CX X.prog X.w) k f fd ps sp) (hr : Room k X.A)
    (hb : KBn X.K fd ps i ks g gV) (hx : PassesAt (L2.CX X.prog X.w) X σ (E σ)) (I : Inv X pins σ H s) (r : Vals vs us) (rz : Vals zs ws) (l1 : vs.length = i) (l2 : zs.length = ks.length) (h : sp (gV vs zs) H Q (E σ)) : wpAny (model X.prog X.w) X.A (call (.ref f) us (ks.zip ws)) (EP X pins σ Q) X.xe s := by
  have r2 := hb.rel r rz
  refine wpAny_call (codeAny_mono (F.run X.A X.stack s H ⟨us, ks.zip ws⟩ (g us ws) (gV vs zs) Q (E σ) hr I.env0 (hb.to s us ws I.kIn (r.length.symm.trans l1) (rz.length.symm.trans l2)) r2 h) fun r s' hq => ?_)
  cases r with
  | error e => exact hx pins H s e s' I hq
  | ok fl =>
    cases fl with
    | ret u => exact I.after hq
    | next => exact False.elim hq
    | brk => exact False.elim hq
    | cont => exact False.elim hq
theorem pd_calX {x : Str} {k m i j : Nat} {ks : List Str} {src : List Sl} {c : DSp} {wa wk : DA} (D : FnG X.prog X.w X.K X.mg X.base x k m i ks src c) (hj : ks.length = j) (hr : Room k X.A) (hg : Gl X x) (ha : PAD X n (e :: es) wa) (hkw : PKD X n kwl wk)
    (hall : (backToKw pos (keywordEach kwl X.env)).all (·.1.isSome) = true := by rfl) (hks : (backToKw pos (keywordEach kwl X.env)).filterMap (·.1) = ks := by rfl)
    (hdb : (x == ("__debug__" : Str)) = false := by decide) (he : starEach (e :: es) X.env = (false, eval e X.env) :: starEach es X.env := by rfl)
    (hpl : ((backTo pos (starEach (e :: es) X.env)).any (·.1) || (backToKw pos (keywordEach kwl X.env)).any (·.1.isNone)) = false := by rfl) :
    PD X n (.Call (.Name x p) (e :: es) kwl pos) (wCalX i j m src c wa wk) := by
  obtain ⟨f, fd, ps, Fn, hmg, hk, ⟨g, gV, hb, hrel⟩⟩ := D.ex
  refine ⟨fun pins s σ H F ρ st Q E I R tk hw => ?_⟩
  refine wpAny_Call_Name_kw (ld_glob I hg hmg ?_ hdb)
  refine PySem.W.callWith_KW (h₀ := X.base) I.ok.mod.kin hk hall (thn (ha.run pos pins s σ H F ρ st _ E I R tk hw) fun us s1 ⟨vs, xs, st1, H1, F1, ρ1, I1, rv, p1, R1, rw1, q1⟩ => ?_) hpl he
  refine thn (hkw.run pos pins s1 σ H1 F1 ρ1 st1 _ E I1 R1 tk q1) fun ws s2 ⟨zs, ys, st2, H2, F2, ρ2, I2, rz, p2, R2, rw2, q2⟩ => ⟨I2.kIn, ?_⟩
  rw [hks]
  have a1 := q2.l1
  have a2 := q2.l2.trans hj.symm
  refine thn (run_fnX (us := us) (vs := vs) Fn hr hb (passAt tk σ) I2 rv rz (by rw [← rw1.len]; exact a1) (by rw [← rw2.len]; exact a2) (call_sp (vs := gV vs zs) (ws := selW src xs ys) R2 (hrel F2 ρ2 xs ys vs zs a1 a2 (rw1.post p2) rw2) q2.l3 q2.go fun cls d H' z => z)) fun u s3 ⟨v, H3, I3, r3, w', st', F', ρ', p3, R3, rw3, q3⟩ => ?_
  exact ⟨v, w', st', H3, F', ρ', I3, r3, (p1.trans p2 R1.ok.dom).trans p3 R2.ok.dom, R3, rw3, q3⟩
theorem pd_calX0 {x : Str} {k m j : Nat} {ks : List Str} {src : List Sl} {c : DSp} {wk : DA} (D : FnG X.prog X.w X.K X.mg X.base x k m 0 ks src c) (hj : ks.length = j) (hr : Room k X.A) (hg : Gl X x) (hkw : PKD X n kwl wk)
    (hall : (backToKw pos (keywordEach kwl X.env)).all (·.1.isSome) = true := by rfl) (hks : (backToKw pos (keywordEach kwl X.env)).filterMap (·.1) = ks := by rfl)
    (hdb : (x == ("__debug__" : Str)) = false := by decide) (hpl : ((backTo pos (starEach [] X.env)).any (·.1) || (backToKw pos (keywordEach kwl X.env)).any (·.1.isNone)) = false := by rfl) :
    PD X n (.Call (.Name x p) [] kwl pos) (wCalX 0 j m src c wNil wk) := by
  obtain ⟨f, fd, ps, Fn, hmg, hk, ⟨g, gV, hb, hrel⟩⟩ := D.ex
  refine ⟨fun pins s σ H F ρ st Q E I R tk hw => ?_⟩
  refine wpAny_Call_Name_kw (ld_glob I hg hmg ?_ hdb)
  refine PySem.W.callWith_KW0 (h₀ := X.base) I.ok.mod.kin hk hall ?_ hpl
  refine thn (hkw.run pos pins s σ H F ρ st _ E I R tk hw) fun ws s2 ⟨zs, ys, st2, H2, F2, ρ2, I2, rz, p2, R2, rw2, q2⟩ => ⟨I2.kIn, ?_⟩
  rw [hks]
  have a2 := q2.l2.trans hj.symm
  refine thn (run_fnX (us := []) (vs := []) Fn hr hb (passAt tk σ) I2 .nil rz rfl (by rw [← rw2.len]; exact a2) (call_sp (vs := gV [] zs) (ws := selW src [] ys) R2 (hrel F2 ρ2 [] ys [] zs rfl a2 rfl rw2) q2.l3 q2.go fun cls d H' z => z)) fun u s3 ⟨v, H3, I3, r3, w', st', F', ρ', p3, R3, rw3, q3⟩ => ?_
  exact ⟨v, w', st', H3, F', ρ', I3, r3, p2.trans p3 R2.ok.dom, R3, rw3, q3⟩
theorem pd_metX {pl : Sem Bool} {cl mn : Str} {k m i j : Nat} {ks : List Str} {src : List Sl} {c : DSp} {wo : DE} {wa wk : DA} {apos : Pos} (D : MtG X.prog X.w X.K X.mg X.base cl mn k m i ks src c) (hj : ks.length = j) (hr : Room k X.A) (ho : PD X n o wo) (ha : PAD X n (e :: es) wa) (hkw : PKD X n kwl wk)
    (hall : (backToKw pos (keywordEach kwl X.env)).all (·.1.isSome) = true := by rfl) (hks : (backToKw pos (keywordEach kwl X.env)).filterMap (·.1) = ks := by rfl)
    (he : starEach (e :: es) X.env = (false, eval e X.env) :: starEach es X.env := by rfl)
    (hpl : ((backTo pos (starEach (e :: es) X.env)).any (·.1) || (backToKw pos (keywordEach kwl X.env)).any (·.1.isNone)) = false := by rfl)
    (ht : eval (.Call (.Attribute o mn apos) (e :: es) kwl pos) X.env = (do
      let ov ← eval o X.env
      standAt apos.atName
      let (f, first) ← holding [ov] (getMethod ov mn pl)
      callWith pos f first (backTo pos (starEach (e :: es) X.env)) (backToKw pos (keywordEach kwl X.env))) := by rfl) :
    PD X n (.Call (.Attribute o mn apos) (e :: es) kwl pos) (wMetX cl mn i j m src c wo wa wk) := by
  obtain ⟨f, fd, ps, Fn, hc, hm, ⟨g, gV, hb, hrel⟩⟩ := D.ex
  refine ⟨fun pins s σ H F ρ st Q E I R tk hw => ?_⟩
  refine PySem.W.methodCall_KW (pl := pl) (thn (ho.run pins s σ H F ρ st _ E I R tk hw) fun u s0 ⟨v, o1, st0, H0, F0, ρ0, I0, rv0, p0, R0, r0, h0⟩ => ?_) ht
  obtain ⟨a, dx, fs, rfl, ea, l⟩ := h0.at R0 r0
  obtain rfl : u = Value.ref a := rv0
  refine getmeth_ok I0 ea hc hm l ?_
  refine PySem.W.callWith_KW (first := [.ref a]) (h₀ := X.base) I.ok.mod.kin hm.kp hall (thn (ha.run pos pins s0 σ H0 F0 ρ0 st0 _ E I0 R0 tk h0.go) fun us s1 ⟨vs, xs, st1, H1, F1, ρ1, I1, rv, p1, R1, rw1, q1⟩ => ?_) hpl he
  refine thn (hkw.run pos pins s1 σ H1 F1 ρ1 st1 _ E I1 R1 tk q1) fun ws s2 ⟨zs, ys, st2, H2, F2, ρ2, I2, rz, p2, R2, rw2, q2⟩ => ⟨I2.kIn, ?_⟩
  rw [hks]
  have a1 := q2.l1
  have a2 := q2.l2.trans hj.symm
  have rr : RepWL X.K F2 ρ2 (o1 :: xs) (.ref a :: vs) := ⟨_, _, rfl, (r0.post p1).post p2, rw1.post p2⟩
  refine thn (run_fnX (us := .ref a :: us) (vs := .ref a :: vs) Fn hr hb (passAt tk σ) I2 (.cons rfl rv) rz (by rw [← rr.len]; exact a1) (by rw [← rw2.len]; exact a2) (call_sp (vs := gV (.ref a :: vs) zs) (ws := selW src (o1 :: xs) ys) R2 (hrel F2 ρ2 (o1 :: xs) ys _ zs a1 a2 rr rw2) q2.l3 q2.go fun cls d H' z => z)) fun u s3 ⟨v, H3, I3, r3, w', st', F', ρ', p3, R3, rw3, q3⟩ => ?_
  exact ⟨v, w', st', H3, F', ρ', I3, r3, ((p0.trans p1 R0.ok.dom).trans p2 R1.ok.dom).trans p3 R2.ok.dom, R3, rw3, q3⟩
theorem pd_metX0 {pl : Sem Bool} {cl mn : Str} {k m i j : Nat} {ks : List Str} {src : List Sl} {c : DSp} {wo : DE} {wk : DA} {apos : Pos} (D : MtG X.prog X.w X.K X.mg X.base cl mn k m i ks src c) (hj : ks.length = j) (hr : Room k X.A) (ho : PD X n o wo) (hkw : PKD X n kwl wk)
    (hall : (backToKw pos (keywordEach kwl X.env)).all (·.1.isSome) = true := by rfl) (hks : (backToKw pos (keywordEach kwl X.env)).filterMap (·.1) = ks := by rfl)
    (hpl : ((backTo pos (starEach [] X.env)).any (·.1) || (backToKw pos (keywordEach kwl X.env)).any (·.1.isNone)) = false := by rfl)
    (ht : eval (.Call (.Attribute o mn apos) [] kwl pos) X.env = (do
      let ov ← eval o X.env
      standAt apos.atName
      let (f, first) ← holding [ov] (getMethod ov mn pl)
      callWith pos f first (backTo pos (starEach [] X.env)) (backToKw pos (keywordEach kwl X.env))) := by rfl) :
    PD X n (.Call (.Attribute o mn apos) [] kwl pos) (wMetX cl mn i j m src c wo wNil wk) := by
  obtain ⟨f, fd, ps, Fn, hc, hm, ⟨g, gV, hb, hrel⟩⟩ := D.ex
  refine ⟨fun pins s σ H F ρ st Q E I R tk hw => ?_⟩
  refine PySem.W.methodCall_KW (pl := pl) (thn (ho.run pins s σ H F ρ st _ E I R tk hw) fun u s0 ⟨v, o1, st0, H0, F0, ρ0, I0, rv0, p0, R0, r0, h0⟩ => ?_) ht
  obtain ⟨a, dx, fs, rfl, ea, l⟩ := h0.at R0 r0
  obtain rfl : u = Value.ref a := rv0
  refine getmeth_ok I0 ea hc hm l ?_
  refine PySem.W.callWith_KW0 (first := [.ref a]) (h₀ := X.base) I.ok.mod.kin hm.kp hall ?_ hpl
  refine thn (hkw.run pos pins s0 σ H0 F0 ρ0 st0 _ E I0 R0 tk h0.go) fun ws s2 ⟨zs, ys, st2, H2, F2, ρ2, I2, rz, p2, R2, rw2, q2⟩ => ⟨I2.kIn, ?_⟩
  rw [hks]
  have a1 := q2.l1
  have a2 := q2.l2.trans hj.symm
  have rr : RepWL X.K F2 ρ2 [o1] [.ref a] := ⟨_, _, rfl, r0.post p2, rfl⟩
  refine thn (run_fnX (us := [.ref a]) (vs := [.ref a]) Fn hr hb (passAt tk σ) I2 (.cons rfl .nil) rz (by rw [← rr.len]; exact a1) (by rw [← rw2.len]; exact a2) (call_sp (vs := gV [.ref a] zs) (ws := selW src [o1] ys) R2 (hrel F2 ρ2 [o1] ys _ zs a1 a2 rr rw2) q2.l3 q2.go fun cls d H' z => z)) fun u s3 ⟨v, H3, I3, r3, w', st', F', ρ', p3, R3, rw3, q3⟩ => ?_
  exact ⟨v, w', st', H3, F', ρ', I3, r3, (p0.trans p2 R0.ok.dom).trans p3 R2.ok.dom, R3, rw3, q3⟩
theorem run_makX {k i : Nat} {f C : Addr} {fd : FuncData} {ps ks : List Str} {sp : Sp} {g : List Value → List Value → List Value} {gV : List V → List V → List V} {E : L2.St → XK} {pins : List (Addr × Obj)} {σ : L2.St} {H : Hp} {s : Shared} {Q : VK} {us ws : List Value} {vs zs : List V} (M : Mk X.K C f)
    (F : FnOk X.prog X.w X.K X.mg X.base (L2.CX X.prog X.w) k f fd ps sp) (hr : Room (k + 1) X.A) (hb : KBn X.K fd ps i ks g gV) (hx : PassesAt (L2.CX X.prog X.w) X σ (E σ)) (I : Inv X pins σ H s) (r : Vals vs us) (rz : Vals zs ws) (l1 : vs.length + 1 = i) (l2 : zs.length = ks.length)
    (h : ∀ x dx, H x = none → H dx = none → dx ≠ x → sp (gV (.ref x :: vs) zs) (upd (upd H dx (.own x)) x (.ins C dx [])) (fun v H2 => v = .non ∧ Q (.ref x) H2) (E σ)) : wpAny (model X.prog X.w) X.A (call (.ref C) us (ks.zip ws)) (EP X pins σ Q) X.xe s := by
  have here := h (s.heap.objs.size + 1) s.heap.objs.size (I.hok.fresh (Nat.le_succ _)) (I.hok.fresh (Nat.le_refl _)) (Nat.ne_of_lt (Nat.lt_succ_self _))
  have J := Inv.made (C := C) I
  have rr := hb.rel (vs := V.ref (s.heap.objs.size + 1) :: vs) (us := Value.ref (s.heap.objs.size + 1) :: us) (.cons rfl r) rz
  have e2 : ws.length = ks.length := rz.length.symm.trans l2
  have e1 : (Value.ref (s.heap.objs.size + 1) :: us).length = i := by rw [List.length_cons, ← r.length]; exact l1
  refine wpAny_call (make_map (f := f) I.kIn M.makes M.init (beq_iff_eq.mp M.fn) (codeAny_mono (F.run _ X.stack _ _ ⟨Value.ref (s.heap.objs.size + 1) :: us, ks.zip ws⟩ (g (Value.ref (s.heap.objs.size + 1) :: us) ws) _ _ (E σ) (hr.make C us (ks.zip ws)) (J.env0.make C us (ks.zip ws)) (hb.to _ (Value.ref (s.heap.objs.size + 1) :: us) ws J.kIn e1 e2) rr here) fun r s' hq => ?_))
  cases r with
  | error e => exact hx pins _ _ e s' J hq
  | ok fl =>
    cases fl with
    | ret u =>
      obtain ⟨v, H', I3, rv, ev, q3⟩ := J.after hq
      subst ev
      exact ⟨rv, ⟨V.ref (s.heap.objs.size + 1), H', I3, rfl, q3⟩⟩
    | next => exact False.elim hq
    | brk => exact False.elim hq
    | cont => exact False.elim hq
theorem makX_sp {fd : FuncData} {c : Str} {sp : DSp} {m i j : Nat} {ps ks : List Str} {src : List Sl} {gV : List V → List V → List V} (hrel : ∀ (F : Hp) (ρ : List Addr) (us ws : List W) (vs zs : List V), us.length = i → ws.length = ks.length → RepWL X.K F ρ us vs → RepWL X.K F ρ ws zs → RepWL X.K F ρ (selW src us ws) (gV vs zs)) (hj : ks.length = j)
    {us zs : List W} {vs ys : List V} {σ : L2.St} {H F : Hp} {ρ : List Addr} {st : Dst} {Q : DQ} {E : DX} (R : Rl X.K n F ρ st σ H) (r1 : RepWL X.K F ρ us vs) (r2 : RepWL X.K F ρ zs ys) (h : makeX c i j m src sp us zs st Q E) {EX : XK}
    (hE : ∀ cls d H', (∃ st' F' ρ' x, Rl X.K n F' ρ' st' σ H' ∧ ExRep X.K F' x cls d H' ∧ E x st') → EX cls d H') (x dx : Addr) (hx : H x = none) (hdx : H dx = none) (ne : dx ≠ x) :
    SpD X.K m sp (gV (.ref x :: vs) ys) (upd (upd H dx (.own x)) x (.ins (He.ga X.K c) dx [])) (fun v H2 => v = .non ∧ ∃ w' st' F' ρ', Post F ρ H F' ρ' H2 ∧ Rl X.K n F' ρ' st' σ H2 ∧ RepW X.K F' ρ' w' (.ref x) ∧ Q w' st') EX := by
  obtain ⟨ds, es, xs, rfl, rfl, es2, mk⟩ := h.ex
  have q := hrel F [x] (.loc 0 :: ds.map W.d) (es.map W.d) (.ref x :: vs) ys (by simpa using h.l1) (by rw [hj]; exact h.l2) ⟨_, _, rfl, ⟨x, rfl, rfl⟩, RepWL.toD r1.ofD⟩ (RepWL.toD r2.ofD)
  rw [es2] at q
  obtain ⟨v, t, e, ⟨a, ea, rfl⟩, q⟩ := q
  obtain rfl : x = a := Option.some.inj ea
  rw [e]
  have := make_sp (dd := []) (dvs := []) (c := c) (sp := sp) (m := m) (Q := Q) (E := E) R q.ofD (fun _ => RepL.nil) (by rw [List.append_nil]; exact mk) hE x dx hx hdx ne
  rw [List.append_nil] at this
  exact this
theorem pd_makX {c : Str} {k m i j : Nat} {ks : List Str} {src : List Sl} {sp : DSp} {wa wk : DA} (D : MkG X.prog X.w X.K X.mg X.base c k m i ks src sp) (hj : ks.length = j) (hr : Room (k + 1) X.A) (hg : Gl X c) (ha : PAD X n (e :: es) wa) (hkw : PKD X n kwl wk)
    (hall : (backToKw pos (keywordEach kwl X.env)).all (·.1.isSome) = true := by rfl) (hks : (backToKw pos (keywordEach kwl X.env)).filterMap (·.1) = ks := by rfl)
    (hdb : (c == ("__debug__" : Str)) = false := by decide) (he : starEach (e :: es) X.env = (false, eval e X.env) :: starEach es X.env := by rfl)
    (hpl : ((backTo pos (starEach (e :: es) X.env)).any (·.1) || (backToKw pos (keywordEach kwl X.env)).any (·.1.isNone)) = false := by rfl) :
    PD X n (.Call (.Name c p) (e :: es) kwl pos) (wMakX c i j m src sp wa wk) := by
  obtain ⟨f, fd, ps, Fn, M, hmg, ⟨g, gV, hb, hrel⟩⟩ := D.ex
  refine ⟨fun pins s σ H F ρ st Q E I R tk hw => ?_⟩
  refine wpAny_Call_Name_kw (ld_glob I hg hmg ?_ hdb)
  refine PySem.W.callWith_KW (h₀ := X.base) I.ok.mod.kin M.kp hall (thn (ha.run pos pins s σ H F ρ st _ E I R tk hw) fun us s1 ⟨vs, xs, st1, H1, F1, ρ1, I1, rv, p1, R1, rw1, q1⟩ => ?_) hpl he
  refine thn (hkw.run pos pins s1 σ H1 F1 ρ1 st1 _ E I1 R1 tk q1) fun ws s2 ⟨zs, ys, st2, H2, F2, ρ2, I2, rz, p2, R2, rw2, q2⟩ => ⟨I2.kIn, ?_⟩
  rw [hks]
  have a1 := q2.l1
  have a2 := q2.l2.trans hj.symm
  refine thn (run_makX (Q := fun v H' => ∃ w' st' F' ρ', Post F2 ρ2 H2 F' ρ' H' ∧ Rl X.K n F' ρ' st' σ H' ∧ RepW X.K F' ρ' w' v ∧ Q w' st') M Fn hr hb (passAt tk σ) I2 rv rz (by rw [← rw1.len]; exact a1) (by rw [← rw2.len]; exact a2) (makX_sp (fd := fd) (ps := ps) hrel hj R2 (rw1.post p2) rw2 q2 fun cls d H' z => z)) fun u s3 ⟨v, H3, I3, r3, w', st', F', ρ', p3, R3, rw3, q3⟩ => ?_
  exact ⟨v, w', st', H3, F', ρ', I3, r3, (p1.trans p2 R1.ok.dom).trans p3 R2.ok.dom, R3, rw3, q3⟩
theorem pd_makX0 {c : Str} {k m j : Nat} {ks : List Str} {src : List Sl} {sp : DSp} {wk : DA} (D : MkG X.prog X.w X.K X.mg X.base c k m 1 ks src sp) (hj : ks.length = j) (hr : Room (k + 1) X.A) (hg : Gl X c) (hkw : PKD X n kwl wk)
    (hall : (backToKw pos (keywordEach kwl X.env)).all (·.1.isSome) = true := by rfl) (hks : (backToKw pos (keywordEach kwl X.env)).filterMap (·.1) = ks := by rfl)
    (hdb : (c == ("__debug__" : Str)) = false := by decide) (hpl : ((backTo pos (starEach [] X.env)).any (·.1) || (backToKw pos (keywordEach kwl X.env)).any (·.1.isNone)) = false := by rfl) :
    PD X n (.Call (.Name c p) [] kwl pos) (wMakX c 1 j m src sp wNil wk) := by
  obtain ⟨f, fd, ps, Fn, M, hmg, ⟨g, gV, hb, hrel⟩⟩ := D.ex
  refine ⟨fun pins s σ H F ρ st Q E I R tk hw => ?_⟩
  refine wpAny_Call_Name_kw (ld_glob I hg hmg ?_ hdb)
  refine PySem.W.callWith_KW0 (h₀ := X.base) I.ok.mod.kin M.kp hall ?_ hpl
  refine thn (hkw.run pos pins s σ H F ρ st _ E I R tk hw) fun ws s2 ⟨zs, ys, st2, H2, F2, ρ2, I2, rz, p2, R2, rw2, q2⟩ => ⟨I2.kIn, ?_⟩
  rw [hks]
  have a2 := q2.l2.trans hj.symm
  refine thn (run_makX (us := []) (vs := []) (Q := fun v H' => ∃ w' st' F' ρ', Post F2 ρ2 H2 F' ρ' H' ∧ Rl X.K n F' ρ' st' σ H' ∧ RepW X.K F' ρ' w' v ∧ Q w' st') M Fn hr hb (passAt tk σ) I2 .nil rz rfl (by rw [← rw2.len]; exact a2) (makX_sp (us := []) (vs := []) (fd := fd) (ps := ps) hrel hj R2 rfl rw2 q2 fun cls d H' z => z)) fun u s3 ⟨v, H3, I3, r3, w', st', F', ρ', p3, R3, rw3, q3⟩ => ?_
  exact ⟨v, w', st', H3, F', ρ', I3, r3, p2.trans p3 R2.ok.dom, R3, rw3, q3⟩
end
section
variable {P : Program} {w : World} {K : PySem.W.Frag} {mg : Str → Option Value} {base : Heap} {x c m qual : Str} {st : Stmt} {N ps ks : List Str} {k i : Nat} {sp : DSp} {wb : DS} {dvs : List V} {src : List Sl}
theorem fnG_of (D : Df K mg x st) (S : FnScope N ps (defScope st)) (hb : BodyD P w K mg base x st N k wb) (hc : ReadD sp ps.length N wb) (hs : ∀ F, ∀ s ∈ src, slOk K F i ks.length [] [] s)
    (bd : ∀ (kV doc pm : Value) (an : Option Addr) (cdv ct : Value) (us ws : List Value), us.length = i → ws.length = ks.length → bindArgs (PySem.W.fnOf x x (defArgs st) (defBody st) (defScope st) .none kV doc pm an cdv ct) ⟨us, ks.zip ws⟩ = pure (ps.zip (selG src us [] [] ws))) : FnG P w K mg base x (k + 1) ps.length i ks src sp := by
  obtain ⟨f, fd, F, hm⟩ := D.ex
  exact ⟨f, fd, ps, ok_ofD F S rfl (fun cdv A outer s H E n hr => hb f cdv A outer s H E n hr) hc, hm, F.kp, bnW_0 F i ks src hs bd⟩
theorem mtG_of (D : DfM K c m qual st []) (S : FnScope N ps (defScope st)) (hb : BodyQ P w K mg base qual st N k wb) (hc : ReadD sp ps.length N wb) (hs : ∀ F, ∀ s ∈ src, slOk K F i ks.length [] [] s)
    (bd : ∀ (kV doc pm : Value) (an : Option Addr) (cdv ct : Value) (us ws : List Value), us.length = i → ws.length = ks.length → bindArgs (PySem.W.fnOf m qual (defArgs st) (defBody st) (defScope st) .none kV doc pm an cdv ct) ⟨us, ks.zip ws⟩ = pure (ps.zip (selG src us [] [] ws))) : MtG P w K mg base c m (k + 1) ps.length i ks src sp := by
  obtain ⟨fd, F⟩ := D.ex
  exact ⟨_, fd, ps, ok_ofD F S rfl (fun cdv A outer s H E n hr => hb _ cdv A outer s H E n hr) hc, D.cl, D.mt, bnW_0 F i ks src hs bd⟩
theorem mkG_of (D : DfI K c qual st []) (hm : mg c = some (.ref (He.ga K c))) (S : FnScope N ps (defScope st)) (hb : BodyQ P w K mg base qual st N k wb) (hc : ReadD sp ps.length N wb) (hs : ∀ F, ∀ s ∈ src, slOk K F i ks.length [] [] s)
    (bd : ∀ (kV doc pm : Value) (an : Option Addr) (cdv ct : Value) (us ws : List Value), us.length = i → ws.length = ks.length → bindArgs (PySem.W.fnOf "__init__" qual (defArgs st) (defBody st) (defScope st) .none kV doc pm an cdv ct) ⟨us, ks.zip ws⟩ = pure (ps.zip (selG src us [] [] ws))) : MkG P w K mg base c (k + 1) ps.length i ks src sp := by
  obtain ⟨fd, F⟩ := D.ex
  exact ⟨_, fd, ps, ok_ofD F S rfl (fun cdv A outer s H E n hr => hb _ cdv A outer s H E n hr) hc, D.mkr, hm, bnW_0 F i ks src hs bd⟩
/-- defaults behind -/
theorem mtG_t (D : DfM K c m qual st dvs) (hd : dvs ≠ []) (S : FnScope N ps (defScope st)) (hb : BodyQ P w K mg base qual st N k wb) (hc : ReadD sp ps.length N wb) (hs : ∀ F, ∀ s ∈ src, slOk K F i ks.length dvs [] s)
    (bd : ∀ (T : Addr) (kV doc pm : Value) (an : Option Addr) (cdv ct : Value) (us its ws : List Value), us.length = i → its.length = dvs.length → ws.length = ks.length → ∃ k, bindArgs (PySem.W.fnOf m qual (defArgs st) (defBody st) (defScope st) (.ref T) kV doc pm an cdv ct) ⟨us, ks.zip ws⟩ = seqItems? (.ref T) >>= k ∧ k (some its.toArray) = pure (ps.zip (selG src us its [] ws))) : MtG P w K mg base c m (k + 1) ps.length i ks src sp := by
  obtain ⟨fd, F⟩ := D.ex
  exact ⟨_, fd, ps, ok_ofD F S rfl (fun cdv A outer s H E n hr => hb _ cdv A outer s H E n hr) hc, D.cl, D.mt, bnW_t F hd i ks src hs bd⟩
theorem mkG_t (D : DfI K c qual st dvs) (hd : dvs ≠ []) (hm : mg c = some (.ref (He.ga K c))) (S : FnScope N ps (defScope st)) (hb : BodyQ P w K mg base qual st N k wb) (hc : ReadD sp ps.length N wb) (hs : ∀ F, ∀ s ∈ src, slOk K F i ks.length dvs [] s)
    (bd : ∀ (T : Addr) (kV doc pm : Value) (an : Option Addr) (cdv ct : Value) (us its ws : List Value), us.length = i → its.length = dvs.length → ws.length = ks.length → ∃ k, bindArgs (PySem.W.fnOf "__init__" qual (defArgs st) (defBody st) (defScope st) (.ref T) kV doc pm an cdv ct) ⟨us, ks.zip ws⟩ = seqItems? (.ref T) >>= k ∧ k (some its.toArray) = pure (ps.zip (selG src us its [] ws))) : MkG P w K mg base c (k + 1) ps.length i ks src sp := by
  obtain ⟨fd, F⟩ := D.ex
  exact ⟨_, fd, ps, ok_ofD F S rfl (fun cdv A outer s H E n hr => hb _ cdv A outer s H E n hr) hc, D.mkr, hm, bnW_t F hd i ks src hs bd⟩
end
end Dl
namespace Dl
open PySem PySem.Spec PyProof.Rows L2
variable [TheW]
theorem rg_rep {K : PySem.W.Frag} {F : Hp} {a b : Int} : RepL K F (rangeD a b) (rgV a b) := by
  unfold rangeD rgV
  have go : ∀ l : List Nat, RepL K F (l.map fun (k : Nat) => D.int (a + k)) (l.map fun i => V.int (a + (i : Nat))) := by
    intro l
    induction l with
    | nil => exact RepL.nil
    | cons x l ih => exact RepL.cons rfl ih
  exact go _
structure lrgP (a b : Int) (st : Dst) (Q : DQ) : Prop where
  ok : RgOk a b
  go : Q (.d (.lst (rangeD a b))) st
def wLRg1 (wa : DE) : DE := fun st Q E => wa st (fun v st1 => match v with
  | .d (.int n) => lrgP 0 n st1 Q
  | _ => False) E
section
variable {X : Cx} {n : En} {a : Expr} {p p2 pos pos2 : Pos}
theorem pd_listRg1 {wa : DE} (hc : X.calm = true) (hg : Gl X "list") (hm : X.mg "list" = none) (hg2 : Gl X "range") (hm2 : X.mg "range" = none) (ha : PD X n a wa) (na : starEach [a] X.env = (false, eval a X.env) :: starEach [] X.env := by rfl)
    (na2 : starEach [.Call (.Name "range" p2) [a] [] pos2] X.env = (false, eval (.Call (.Name "range" p2) [a] [] pos2) X.env) :: starEach [] X.env := by rfl) : PD X n (.Call (.Name "list" p) [.Call (.Name "range" p2) [a] [] pos2] [] pos) (wLRg1 wa) :=
  pd_of (pe_listRg hc hg hm (prg_1 hg2 hm2 ha.pe na) na2) fun σ H F ρ st Q E R tk hw => by
    refine tE.use R tk hw fun v w1 st1 H1 F1 ρ1 p1 R1 r1 h1 => ?_
    split at h1
    · rename_i k
      refine ⟨k, r1, h1.ok, fun q hq => ?_⟩
      have g : Grow F1 H1 (upd F1 q (.lst (rgV 0 k))) (upd H1 q (.lst (rgV 0 k))) := .one hq
      obtain ⟨p2, R2⟩ := R1.grow g
      refine ⟨.d (.lst (rangeD 0 k)), st1, _, _, p1.trans p2 R1.ok.dom, R2, ?_, h1.go⟩
      show Rep _ _ (.lst _) _
      unfold Rep
      exact ⟨q, _, rfl, upd_same, rg_rep⟩
    · exact h1.elim
end
end Dl
namespace Dl
open PySem PySem.Spec PyProof.Rows L2
mutual
theorem plain_py : ∀ (n : Nat) (d : D), plainD n d = true → ∃ p, pyD d = some p ∧ p.canLay0 = true ∧ p.depth ≤ n
  | 0, _, h => by unfold plainD at h; cases h
  | n + 1, .non, _ => ⟨_, by unfold pyD; rfl, by unfold PyData.canLay0; rfl, by unfold PyData.depth; omega⟩
  | n + 1, .bl b, _ => ⟨_, by unfold pyD; rfl, by unfold PyData.canLay0; rfl, by unfold PyData.depth; omega⟩
  | n + 1, .int i, _ => ⟨_, by unfold pyD; rfl, by unfold PyData.canLay0; rfl, by unfold PyData.depth; omega⟩
  | n + 1, .str x, h => by
    unfold plainD at h
    exact ⟨_, by unfold pyD; rfl, by unfold PyData.canLay0 PyData.strOk; simpa [mkS] using h, by unfold PyData.depth; omega⟩
  | n + 1, .tup xs, h => by
    unfold plainD at h
    obtain ⟨ps, e, c, d⟩ := plain_pyL n xs (Bool.and_eq_true_iff.mp h).2
    exact ⟨.tuple ps, by unfold pyD; rw [e]; rfl, by unfold PyData.canLay0; exact c, by unfold PyData.depth; omega⟩
  | n + 1, .lst xs, h => by
    unfold plainD at h
    obtain ⟨ps, e, c, d⟩ := plain_pyL n xs (Bool.and_eq_true_iff.mp h).2
    exact ⟨.list ps, by unfold pyD; rw [e]; rfl, by unfold PyData.canLay0; exact c, by unfold PyData.depth; omega⟩
  | n + 1, .dic _ _, h => by unfold plainD at h; cases h
  | n + 1, .ins _ _ _, h => by unfold plainD at h; cases h
  | n + 1, .ty _, h => by unfold plainD at h; cases h
  | n + 1, .cls _, h => by unfold plainD at h; cases h
  | n + 1, .exc _ _ _, h => by unfold plainD at h; cases h
  | n + 1, .lamR _ _, h => by unfold plainD at h; cases h
  | n + 1, .lam _ _ _, h => by unfold plainD at h; cases h
theorem plain_pyL : ∀ (n : Nat) (ds : List D), plainL n ds = true → ∃ ps, pyL ds = some ps ∧ PyData.canLayAll0 ps = true ∧ PyData.depthAll ps ≤ n
  | n, [], _ => ⟨[], by unfold pyL; rfl, by unfold PyData.canLayAll0; rfl, by unfold PyData.depthAll; omega⟩
  | n, d :: ds, h => by
    unfold plainL at h
    obtain ⟨h1, h2⟩ := Bool.and_eq_true_iff.mp h
    obtain ⟨p, e1, c1, d1⟩ := plain_py n d h1
    obtain ⟨ps, e2, c2, d2⟩ := plain_pyL n ds h2
    exact ⟨p :: ps, by unfold pyL; rw [e1, e2], by unfold PyData.canLayAll0; rw [c1, c2]; rfl, by unfold PyData.depthAll; omega⟩
end
theorem okB_plain {n : Nat} {d : D} (h : plainD n d = true) (hn : n ≤ 64 := by decide) : okB d = true := by
  obtain ⟨p, e, c, hd⟩ := plain_py n d h
  unfold okB
  rw [e]
  show (p.canLay0 && decide (p.depth ≤ 64)) = true
  rw [c, decide_eq_true (by omega)]; rfl
theorem eqD_self {n : Nat} {d : D} (h : plainD n d = true) : eqD d d = true := by
  obtain ⟨p, e, c, _⟩ := plain_py n d h
  unfold eqD
  rw [e]
  exact SeqAt.eqv_refl p c
variable [TheW]
/-- a plain value is equal to itself -/
theorem eqSelf {n : Nat} {d : D} {Q : D → Prop} (h : plainD n d = true) (q : Q (.bl true)) (hn : n ≤ 64 := by decide) : oEq d d Q := eqP (okB_plain h hn) (okB_plain h hn) (by rw [eqD_self h]; exact q)
theorem neSelf {n : Nat} {d : D} {Q : D → Prop} (h : plainD n d = true) (q : Q (.bl false)) (hn : n ≤ 64 := by decide) : oNe d d Q := neP (okB_plain h hn) (okB_plain h hn) (by rw [eqD_self h]; exact q)
theorem eqD_nil {d : D} {ds : List D} {n : Nat} (h : plainL n (d :: ds) = true) : eqD (.lst (d :: ds)) (.lst []) = false := by
  obtain ⟨ps, e, _, _⟩ := plain_pyL n _ h
  unfold eqD
  have e1 : pyD (.lst (d :: ds)) = some (.list ps) := by unfold pyD; rw [e]; rfl
  have e2 : pyD (.lst []) = some (.list []) := rfl
  rw [e1, e2]
  cases ps with
  | nil =>
    unfold pyL at e
    split at e <;> cases e
  | cons p ps => show PyData.eqv (.list (p :: ps)) (.list []) = false; unfold PyData.eqv PyData.eqvAll; rfl
end Dl
namespace Dl
open PySem PySem.Spec PyProof.Rows L2
section
open PySem.W
variable {prog : Program} {w : World} {A : Around} {E : Value → Shared → Prop} {s : Shared} {K : Frag} {x C L f : Addr} {h₀ : Heap} {m : Str → Option Value} {ox : Obj} {od : Option Obj} {T : String}
theorem binT_look {op : Operator} {b : Value} {fo ro rc : Option Value} {Q : Value → Shared → Prop} (F : Fr h₀ L s.heap m) (X₀ : K.In h₀) (I : InstAt s.heap x ox C od) (hb : Looks (model prog w) s.heap (typeOf b) (.type T)) (hc : selfFirst K C = true)
    (hs : findIn K (.ref C) (PySem.dunder op.info.2) = some (some (.ref f))) (hf : isFn K (.ref f) = true) (hr : findIn K (.ref C) (dunderR op.info.2) = some rc) (hp : rc = none ∨ ∃ g : Addr, rc = some (.ref g))
    (h1 : findIn K (.type T) (PySem.dunder op.info.2) = some fo) (h2 : findIn K (.type T) (dunderR op.info.2) = some ro) (hsub : subIn K (.type T) (.ref C) = some false)
    (h : wpAny (model prog w) A (call (.ref f) [.ref x, b]) (PySem.W.CmpBack Q) E s) : wpAny (model prog w) A (binaryOp op (.ref x) b) Q E s := by
  have kin := X₀.keeps F.keep
  obtain ⟨cda, tail, hcd, hmro⟩ := ksp_first hc
  rcases hi : op.info with ⟨sy, nx⟩
  rw [hi] at hs hr h1 h2
  dsimp only at hs hr h1 h2
  have tryit := ksp_try kin I hs hf h
  obtain ⟨hh, g, d, tt, os⟩ := s
  have a1 : Looks (model prog w) hh (typeOf (.ref x)) (.ref C) := I.type
  have a2 : Looks (model prog w) hh (typeOf b) (.type T) := hb
  have a3 : Looks (model prog w) hh (fillsNumberSlot (.ref C) nx) true := fills_K kin hcd hmro hs
  have a4 : Looks (model prog w) hh (fillsNumberSlot (.type T) nx) ((fo.isSome && !isSeqSlot fo) || (ro.isSome && !isSeqSlot ro)) := ksp_fillsT kin h1 h2
  have a5 : Looks (model prog w) hh (isSubtype (.type T) (.ref C)) false := looks_subIn kin hsub
  have a6 : Looks (model prog w) hh (numberSlotInPython (.ref C) nx) true := ksp_inPy kin hs hr hp
  have a7 : Looks (model prog w) hh (numberSlotInPython (.type T) nx) false := Looks.of_pure rfl
  have a8 : Looks (model prog w) hh (typeLookup (.type T) (dunderR nx)) ro := looks_findIn kin h2
  generalize ((fo.isSome && !isSeqSlot fo) || (ro.isSome && !isSeqSlot ro)) = rhs at a4
  have hne : (Value.ref C == Value.type T) = false := Bool.eq_false_iff.mpr fun q => nomatch beq_iff_eq.mp q
  simp only [binaryOp, hi]
  refine wpAny_holding (wpAny_bind ?_)
  unfold binaryOp1
  refine wpAny_bind (a1.at (wpAny_bind (a2.at (wpAny_bind (a3.at ?_)))))
  simp only [hne, Bool.false_eq_true, if_false]
  cases rhs <;>
  · ksp_lk
    refine wpAny_mono tryit (fun r s' hr' => ?_) fun _ _ z => z
    obtain ⟨v, rfl, hq⟩ := hr'
    ksp_lk
    exact hq
end
variable [TheW]
/-- with a value of this built-in type behind -/
structure OwnT (K : PySem.W.Frag) (c : Str) (op : Operator) (T : String) : Prop where
  h1 : ∃ fo, PySem.W.findIn K (.type T) (PySem.dunder op.info.2) = some fo
  h2 : ∃ ro, PySem.W.findIn K (.type T) (PySem.dunderR op.info.2) = some ro
  sub : PySem.W.subIn K (.type T) (.ref (He.ga K c)) = some false
def ownTB (K : PySem.W.Frag) (c : Str) (op : Operator) (Ts : List String) : Bool := Ts.all fun T => (PySem.W.findIn K (.type T) (PySem.dunder op.info.2)).isSome && ((PySem.W.findIn K (.type T) (PySem.dunderR op.info.2)).isSome && decide (PySem.W.subIn K (.type T) (.ref (He.ga K c)) = some false))
theorem ownT_ok {K : PySem.W.Frag} {c : Str} {op : Operator} {Ts : List String} (h : ownTB K c op Ts = true) : ∀ T ∈ Ts, OwnT K c op T := fun T hT => by
  obtain ⟨h1, h⟩ := He.ba (List.all_eq_true.mp h T hT)
  obtain ⟨h2, h3⟩ := He.ba h
  exact ⟨Option.isSome_iff_exists.mp h1, Option.isSome_iff_exists.mp h2, of_decide_eq_true h3⟩
structure ownQ (c : Str) (Ts : List String) (sp : DSp) (o x : W) (st : Dst) (Q : DQ) (E : DX) : Prop where
  ob : ∃ ks vs, o = .d (.ins c ks vs)
  ri : (∃ d T, x = .d d ∧ tyOf d = some (.ty T) ∧ T ∈ Ts) ∨ ∃ ks vs, x = .d (.ins c ks vs)
  go : wFn sp [o, x] st Q E
def wOwnT (c : Str) (Ts : List String) (sp : DSp) (wa wb : DE) : DE := fun st Q E => wa st (fun o st1 => wb st1 (fun x st2 => ownQ c Ts sp o x st2 Q E) E) E
section
variable {X : Cx} {n : En} {a b : Expr} {pos : Pos}
theorem pd_ownT {op : Operator} {cl : Str} {k : Nat} {sp : DSp} {wa wb : DE} {Ts : List String} (D : OpD X.prog X.w X.K X.mg X.base cl op k sp) (TT : ∀ T ∈ Ts, OwnT X.K cl op T) (hr : Room k X.A) (ha : PD X n a wa) (hb : PD X n b wb) : PD X n (.BinOp a op b pos) (wOwnT cl Ts sp wa wb) := by
  obtain ⟨f, fd, ps, Fn, ob, orr, hbd⟩ := D.ex
  refine ⟨fun pins s σ H F ρ st Q E I R tk hw => ?_⟩
  refine wpAny_BinOp (thn (ha.run pins s σ H F ρ st _ E I R tk hw) fun u1 s1 ⟨v1, o1, st1, H1, F1, ρ1, I1, rv1, p1, R1, r1, h1⟩ => ?_)
  refine thn (hb.run pins s1 σ H1 F1 ρ1 st1 _ E I1 R1 tk h1) fun u2 s2 ⟨v2, x2, st2, H2, F2, ρ2, I2, rv2, p2, R2, r2, h2⟩ => ?_
  obtain ⟨ks, vs, rfl⟩ := h2.ob
  have r1 := r1.post p2
  have q1 : Rep X.K F2 (.ins cl ks vs) v1 := r1
  unfold Rep at q1
  obtain ⟨x, dx, fs, rfl, e1, e2, e3⟩ := q1
  obtain rfl : u1 = Value.ref x := rv1
  obtain ⟨mA, O, _, _, _, _⟩ := ins_get I2.hok (R2.ok.sub _ _ e1)
  obtain ⟨od, J, _⟩ := O.look
  obtain ⟨m, Fr0⟩ := I2.fr
  have call : wpAny (model X.prog X.w) X.A (call (.ref f) [.ref x, u2]) (PySem.W.CmpBack (EPD X n pins σ F ρ H Q)) X.xe s2 := by
    refine thn (run_fnS (us := [.ref x, u2]) (vs := [.ref x, v2]) Fn hr hbd (passAt tk σ) I2 (.cons rfl (.cons rv2 .nil)) (call_sp (ws := [.d (.ins cl ks vs), x2]) R2 ⟨_, _, rfl, r1, _, _, rfl, r2, rfl⟩ rfl h2.go fun cls d H' z => z)) fun u s3 ⟨v, H3, I3, r3, w', st', F', ρ', p3, R3, rw3, q3⟩ => ?_
    exact cmpBack_of r3 ⟨v, w', st', H3, F', ρ', I3, r3, (p1.trans p2 R1.ok.dom).trans p3 R2.ok.dom, R3, rw3, q3⟩
  rcases h2.ri with ⟨d, T, rfl, et, hT⟩ | ⟨ks2, vs2, rfl⟩
  · have ty := tyX_of (t := .ty T) R2.ok.sub (show Rep X.K F2 d v2 from r2) et trivial
    obtain ⟨P, Z, hp, _⟩ := kit_of I2 rv2 ty
    have look := Z.ty (model X.prog X.w) s2.heap I2.kIn hp
    obtain ⟨⟨fo, h1⟩, ⟨ro, h2⟩, sub⟩ := TT T hT
    exact binT_look (T := T) Fr0 I2.ok.mod.kin J look ob.first ob.at_ ob.fn orr.rc (.inl rfl) h1 h2 sub call
  · have q2 : Rep X.K F2 (.ins cl ks2 vs2) v2 := r2
    unfold Rep at q2
    obtain ⟨y, dy, gs, rfl, g1, g2, g3⟩ := q2
    obtain rfl : u2 = Value.ref y := rv2
    obtain ⟨mB, OB, _, _, _, _⟩ := ins_get I2.hok (R2.ok.sub _ _ g1)
    obtain ⟨od2, J2, _⟩ := OB.look
    exact PySem.W.binop_K Fr0 I2.ok.mod.kin J J2.type ob.first ob.at_ ob.fn call
end
end Dl
namespace Dl
open PySem PySem.Spec PyProof.Rows L2
def gI (a b : Int) : Int := (Int.gcd a b : Int)
def rat (t b : Int) : Int × Int := if 0 < b then (t / gI t b, b / gI t b) else (-t / gI t b, -b / gI t b)
def pr (p : Int × Int) : D := .tup [.int p.1, .int p.2]
def sh (p : Int × Int) : D := .ins "Share" ["pair"] [pr p]
/-- bounds: of numbers that are met, of what is reckoned of two of them -/
def bS : Nat := 2 ^ 3900
def bG : Nat := 2 ^ 8000
abbrev Sm (i : Int) : Prop := i.natAbs < bS
abbrev Bg (i : Int) : Prop := i.natAbs < bG
theorem bS_pos : 0 < bS := Nat.pow_pos (by decide)
theorem bS2 : bS * bS + bS * bS ≤ bG := by
  have e : bS * bS + bS * bS = 2 ^ 7801 := by
    unfold bS
    rw [← Nat.pow_add]
    rw [show (7801 : Nat) = (3900 + 3900) + 1 from rfl, Nat.pow_succ]; omega
  rw [e]; unfold bG
  exact Nat.pow_le_pow_right (by decide) (by decide)
theorem bS_le : bS ≤ bG := by unfold bS bG; exact Nat.pow_le_pow_right (by decide) (by decide)
theorem sm_of {i : Int} (k : Nat) (h : i.natAbs < 2 ^ k) (hk : k ≤ 3900 := by decide) : Sm i := Nat.lt_of_lt_of_le h (Nat.pow_le_pow_right (by decide) hk)
theorem Sm.bg {i : Int} (h : Sm i) : Bg i := Nat.lt_of_lt_of_le h bS_le
theorem mulS {x y : Int} (hx : Sm x) (hy : Sm y) : (x * y).natAbs < bS * bS := by
  rw [Int.natAbs_mul]; exact Nat.mul_lt_mul'' hx hy
theorem bgM {x y : Int} (hx : Sm x) (hy : Sm y) : Bg (x * y) := by
  have := mulS hx hy
  have := bS2
  simp only [Bg]; omega
theorem bgA {a b c d : Int} (h1 : Sm a) (h2 : Sm b) (h3 : Sm c) (h4 : Sm d) : Bg (a * b + c * d) := by
  have e1 := mulS h1 h2
  have e2 := mulS h3 h4
  have e3 := bS2
  have e4 := Int.natAbs_add_le (a * b) (c * d)
  simp only [Bg]; omega
theorem bgB {a b c d : Int} (h1 : Sm a) (h2 : Sm b) (h3 : Sm c) (h4 : Sm d) : Bg (a * b - c * d) := by
  have e1 := mulS h1 h2
  have e2 := mulS h3 h4
  have e3 := bS2
  have e4 := Int.natAbs_sub_le (a * b) (c * d)
  simp only [Bg]; omega
theorem log_lt {x k : Nat} (h : x < 2 ^ k) : x.log2 < k + 1 := by
  by_cases z : x = 0
  · subst z; simp
  · have := (Nat.log2_lt z).mpr h; omega
theorem okM {x y : Int} (hx : Bg x) (hy : Bg y) : CMul x y ∨ CMulW x y := .inr (by
  have a := log_lt (show x.natAbs < 2 ^ 8000 from hx)
  have b := log_lt (show y.natAbs < 2 ^ 8000 from hy)
  unfold CMulW; omega)
theorem okD {x y : Int} (h0 : 0 < y) (hy : Bg y) : CDivW x y := ⟨h0, by have a := log_lt (show y.natAbs < 2 ^ 8000 from hy); omega⟩
theorem gI_pos {t b : Int} (hb : b ≠ 0) : 0 < gI t b := by
  unfold gI
  have : Int.gcd t b ≠ 0 := fun h => hb (Int.gcd_eq_zero_iff.mp h).2
  omega
theorem gI_le {t b : Int} (hb : b ≠ 0) : (gI t b).natAbs ≤ b.natAbs := by
  unfold gI
  rw [Int.natAbs_natCast]
  exact Nat.le_of_dvd (by omega) (Nat.gcd_dvd_right t.natAbs b.natAbs)
theorem gI_step {a b : Int} (ha : 0 ≤ a) (hb : 0 < b) : gI b (a % b) = gI a b := by
  unfold gI Int.gcd
  have e : (a % b).natAbs = a.natAbs % b.natAbs := by
    obtain ⟨m, rfl⟩ := Int.eq_ofNat_of_zero_le ha
    obtain ⟨k, rfl⟩ := Int.eq_ofNat_of_zero_le (Int.le_of_lt hb)
    rfl
  rw [e, Nat.gcd_comm a.natAbs, Nat.gcd_rec b.natAbs a.natAbs, Nat.gcd_comm]
theorem gI_zero {a : Int} (ha : 0 ≤ a) : gI a 0 = a := by
  unfold gI Int.gcd
  simp
  omega
theorem gI_abs (a b : Int) : gI (if a < 0 then -a else a) (if b < 0 then -b else b) = gI a b := by
  unfold gI Int.gcd
  congr 2 <;> split <;> simp
theorem gI_neg (t b : Int) : gI (-t) (-b) = gI t b := by unfold gI; rw [Int.neg_gcd, Int.gcd_neg]
theorem gI_ab (t b : Int) : gI (if t < 0 then -t else t) b = gI t b := by
  unfold gI Int.gcd
  congr 2; split <;> simp
theorem rat_pos {t b : Int} (hb : b ≠ 0) : 0 < (rat t b).2 := by
  unfold rat
  have g0 := gI_pos (t := t) hb
  have d2 : gI t b ∣ b := by unfold gI; exact Int.gcd_dvd_right ..
  split
  · exact Int.ediv_pos_of_pos_of_dvd (by omega) (by omega) d2
  · exact Int.ediv_pos_of_pos_of_dvd (by omega) (by omega) (Int.dvd_neg.mpr d2)
theorem rat_cop {t b : Int} (hb : b ≠ 0) : Int.gcd (rat t b).1 (rat t b).2 = 1 := by
  have g0 : 0 < Int.gcd t b := Nat.pos_of_ne_zero fun h => hb (Int.gcd_eq_zero_iff.mp h).2
  have d1 : ((Int.gcd t b : Nat) : Int) ∣ t := Int.gcd_dvd_left ..
  have d2 : ((Int.gcd t b : Nat) : Int) ∣ b := Int.gcd_dvd_right ..
  unfold rat gI
  split
  · rw [Int.gcd_ediv_gcd_ediv_gcd g0]
  · rw [Int.neg_ediv_of_dvd d1, Int.neg_ediv_of_dvd d2, Int.neg_gcd, Int.gcd_neg]
    rw [Int.gcd_ediv_gcd_ediv_gcd g0]
theorem rat_id {p : Int × Int} (h0 : 0 < p.2) (h : Int.gcd p.1 p.2 = 1) : rat p.1 p.2 = p := by
  unfold rat gI
  rw [if_pos h0, h]
  simp
theorem rat_idem {t b : Int} (hb : b ≠ 0) : rat (rat t b).1 (rat t b).2 = rat t b := rat_id (rat_pos hb) (rat_cop hb)
theorem rat_bnd {t b : Int} (hb : b ≠ 0) : (rat t b).1.natAbs ≤ t.natAbs ∧ (rat t b).2.natAbs ≤ b.natAbs := by
  unfold rat
  split
  · exact ⟨Int.natAbs_ediv_le_natAbs _ _, Int.natAbs_ediv_le_natAbs _ _⟩
  · constructor
    · have := Int.natAbs_ediv_le_natAbs (-t) (gI t b); simpa using this
    · have := Int.natAbs_ediv_le_natAbs (-b) (gI t b); simpa using this
def fAdd (p q : Int × Int) : Int × Int := rat (p.1 * q.2 + q.1 * p.2) (p.2 * q.2)
def fSub (p q : Int × Int) : Int × Int := rat (p.1 * q.2 - q.1 * p.2) (p.2 * q.2)
def fMul (p q : Int × Int) : Int × Int := rat (p.1 * q.1) (p.2 * q.2)
def fDiv (p q : Int × Int) : Int × Int := rat (p.1 * q.2) (p.2 * q.1)
def fPow (p : Int × Int) (n : Nat) : Int × Int := (p.1 ^ n, p.2 ^ n)
def fLess (p q : Int × Int) : Bool := decide (p.1 * q.2 < q.1 * p.2)
/-- a fraction in lowest terms, of numbers that are met -/
structure Fr (p : Int × Int) : Prop where
  pos : 0 < p.2
  cop : Int.gcd p.1 p.2 = 1
theorem Fr.id {p : Int × Int} (h : Fr p) : rat p.1 p.2 = p := rat_id h.pos h.cop
theorem fr_rat {t b : Int} (hb : b ≠ 0) : Fr (rat t b) := ⟨rat_pos hb, rat_cop hb⟩
theorem ne_mul {a b : Int} (h1 : a ≠ 0) (h2 : b ≠ 0) : a * b ≠ 0 := fun h => (Int.mul_eq_zero.mp h).elim h1 h2
theorem pow_fr {p : Int × Int} (h : Fr p) (n : Nat) : Fr (fPow p n) := by
  refine ⟨Int.pow_pos h.pos, ?_⟩
  show Int.gcd (p.1 ^ n) (p.2 ^ n) = 1
  unfold Int.gcd
  rw [Int.natAbs_pow, Int.natAbs_pow]
  have := h.cop
  unfold Int.gcd at this
  exact Nat.Coprime.pow n n this
end Dl
namespace Lk02
open PySem PySem.Spec PyProof.Rows L2 Dl
abbrev Rw : PySem.W.OpenLaw := PySem.Challenge.rw_overscrawl_k02_shares_refused
def top (i : Nat) : Stmt := Rw.prog.main.body.getD i (.Pass ⟨0, 0, 0, 0⟩)
abbrev s_is_integer : Stmt := top 8
abbrev s_is_within : Stmt := top 9
abbrev s_divisor : Stmt := top 10
abbrev s_ratio : Stmt := top 11
abbrev s_plus : Stmt := top 12
abbrev s_minus : Stmt := top 13
abbrev s_product : Stmt := top 14
abbrev s_quotient : Stmt := top 15
abbrev s_raised : Stmt := top 16
abbrev s_is_less : Stmt := top 17
abbrev s_pair_of : Stmt := top 21
abbrev s_need_pair : Stmt := top 22
abbrev s_share_of : Stmt := top 23
abbrev s_Share___init__ : Stmt := clsStm (top 25) 0
abbrev s_Share_top : Stmt := clsStm (top 25) 2
abbrev s_Share_bottom : Stmt := clsStm (top 25) 3
abbrev s_Share_is_below : Stmt := clsStm (top 25) 4
abbrev s_Share_power : Stmt := clsStm (top 25) 6
abbrev s_Share___add__ : Stmt := clsStm (top 25) 7
abbrev s_Share___sub__ : Stmt := clsStm (top 25) 8
abbrev s_Share___mul__ : Stmt := clsStm (top 25) 9
abbrev s_Share_divided_by : Stmt := clsStm (top 25) 10
abbrev s__law_cells : Stmt := top 27
abbrev s__law_draw : Stmt := top 28
abbrev s__law_any : Stmt := top 29
abbrev s__law_like : Stmt := top 30
abbrev s__law_field : Stmt := top 31
abbrev s__law_try : Stmt := top 32
abbrev s__law_errors : Stmt := top 33
abbrev s__law_ratio : Stmt := top 34
abbrev s__law_pair : Stmt := top 35
abbrev s__law_share : Stmt := top 36
abbrev s__law_some_pair : Stmt := top 37
abbrev s_law : Stmt := top 38
abbrev s_InvalidCount___init__ : Stmt := clsStm (top 3) 0
abbrev s_InvalidShare___init__ : Stmt := clsStm (top 2) 0
def excT : List Str := [("InvalidCount" : Str), ("InvalidShare" : Str)]
def xfT : List (Str × Str) := [("InvalidCount", "code"), ("InvalidCount", "given"), ("InvalidShare", "code")]
theorem sc_is_integer : FnScope [("value" : Str)] [("value" : Str)] (defScope s_is_integer) := ⟨rfl, rfl, rfl, by decide +kernel, rfl, by decide +kernel, by decide +kernel⟩
theorem sc_is_within : FnScope [("value" : Str), ("least" : Str), ("most" : Str)] [("value" : Str), ("least" : Str), ("most" : Str)] (defScope s_is_within) := ⟨rfl, rfl, rfl, by decide +kernel, rfl, by decide +kernel, by decide +kernel⟩
theorem sc_divisor : FnScope [("one" : Str), ("other" : Str)] [("one" : Str), ("other" : Str)] (defScope s_divisor) := ⟨rfl, rfl, rfl, by decide +kernel, rfl, by decide +kernel, by decide +kernel⟩
theorem sc_ratio : FnScope [("top" : Str), ("bottom" : Str), ("common" : Str)] [("top" : Str), ("bottom" : Str)] (defScope s_ratio) := ⟨rfl, rfl, rfl, by decide +kernel, rfl, by decide +kernel, by decide +kernel⟩
theorem sc_plus : FnScope [("one" : Str), ("other" : Str)] [("one" : Str), ("other" : Str)] (defScope s_plus) := ⟨rfl, rfl, rfl, by decide +kernel, rfl, by decide +kernel, by decide +kernel⟩
theorem sc_minus : FnScope [("one" : Str), ("other" : Str)] [("one" : Str), ("other" : Str)] (defScope s_minus) := ⟨rfl, rfl, rfl, by decide +kernel, rfl, by decide +kernel, by decide +kernel⟩
theorem sc_product : FnScope [("one" : Str), ("other" : Str)] [("one" : Str), ("other" : Str)] (defScope s_product) := ⟨rfl, rfl, rfl, by decide +kernel, rfl, by decide +kernel, by decide +kernel⟩
theorem sc_quotient : FnScope [("one" : Str), ("other" : Str)] [("one" : Str), ("other" : Str)] (defScope s_quotient) := ⟨rfl, rfl, rfl, by decide +kernel, rfl, by decide +kernel, by decide +kernel⟩
theorem sc_raised : FnScope [("pair" : Str), ("count" : Str), ("top" : Str), ("bottom" : Str), ("found" : Str), ("left" : Str)] [("pair" : Str), ("count" : Str)] (defScope s_raised) := ⟨rfl, rfl, rfl, by decide +kernel, rfl, by decide +kernel, by decide +kernel⟩
theorem sc_is_less : FnScope [("one" : Str), ("other" : Str)] [("one" : Str), ("other" : Str)] (defScope s_is_less) := ⟨rfl, rfl, rfl, by decide +kernel, rfl, by decide +kernel, by decide +kernel⟩
theorem sc_pair_of : FnScope [("value" : Str)] [("value" : Str)] (defScope s_pair_of) := ⟨rfl, rfl, rfl, by decide +kernel, rfl, by decide +kernel, by decide +kernel⟩
theorem sc_need_pair : FnScope [("value" : Str), ("found" : Str)] [("value" : Str)] (defScope s_need_pair) := ⟨rfl, rfl, rfl, by decide +kernel, rfl, by decide +kernel, by decide +kernel⟩
theorem sc_share_of : FnScope [("pair" : Str)] [("pair" : Str)] (defScope s_share_of) := ⟨rfl, rfl, rfl, by decide +kernel, rfl, by decide +kernel, by decide +kernel⟩
theorem sc_Share___init__ : FnScope [("self" : Str), ("top" : Str), ("bottom" : Str)] [("self" : Str), ("top" : Str), ("bottom" : Str)] (defScope s_Share___init__) := ⟨rfl, rfl, rfl, by decide +kernel, rfl, by decide +kernel, by decide +kernel⟩
theorem sc_Share_top : FnScope [("self" : Str)] [("self" : Str)] (defScope s_Share_top) := ⟨rfl, rfl, rfl, by decide +kernel, rfl, by decide +kernel, by decide +kernel⟩
theorem sc_Share_bottom : FnScope [("self" : Str)] [("self" : Str)] (defScope s_Share_bottom) := ⟨rfl, rfl, rfl, by decide +kernel, rfl, by decide +kernel, by decide +kernel⟩
theorem sc_Share_is_below : FnScope [("self" : Str), ("other" : Str)] [("self" : Str), ("other" : Str)] (defScope s_Share_is_below) := ⟨rfl, rfl, rfl, by decide +kernel, rfl, by decide +kernel, by decide +kernel⟩
theorem sc_Share_power : FnScope [("self" : Str), ("count" : Str)] [("self" : Str), ("count" : Str)] (defScope s_Share_power) := ⟨rfl, rfl, rfl, by decide +kernel, rfl, by decide +kernel, by decide +kernel⟩
theorem sc_Share___add__ : FnScope [("self" : Str), ("other" : Str)] [("self" : Str), ("other" : Str)] (defScope s_Share___add__) := ⟨rfl, rfl, rfl, by decide +kernel, rfl, by decide +kernel, by decide +kernel⟩
theorem sc_Share___sub__ : FnScope [("self" : Str), ("other" : Str)] [("self" : Str), ("other" : Str)] (defScope s_Share___sub__) := ⟨rfl, rfl, rfl, by decide +kernel, rfl, by decide +kernel, by decide +kernel⟩
theorem sc_Share___mul__ : FnScope [("self" : Str), ("other" : Str)] [("self" : Str), ("other" : Str)] (defScope s_Share___mul__) := ⟨rfl, rfl, rfl, by decide +kernel, rfl, by decide +kernel, by decide +kernel⟩
theorem sc_Share_divided_by : FnScope [("self" : Str), ("other" : Str), ("pair" : Str)] [("self" : Str), ("other" : Str)] (defScope s_Share_divided_by) := ⟨rfl, rfl, rfl, by decide +kernel, rfl, by decide +kernel, by decide +kernel⟩
theorem sc__law_cells : FnScope [("_law_script" : Str), ("_law_state" : Str), ("_law_cell" : Str)] [("_law_script" : Str)] (defScope s__law_cells) := ⟨rfl, rfl, rfl, by decide +kernel, rfl, by decide +kernel, by decide +kernel⟩
theorem sc__law_draw : FnScope [("_law_bag" : Str), ("_law_sides" : Str), ("_law_cell" : Str), ("_law_digit" : Str), ("_law_seed" : Str)] [("_law_bag" : Str), ("_law_sides" : Str)] (defScope s__law_draw) := ⟨rfl, rfl, rfl, by decide +kernel, rfl, by decide +kernel, by decide +kernel⟩
theorem sc__law_any : FnScope [("_law_bag" : Str), ("_law_things" : Str)] [("_law_bag" : Str), ("_law_things" : Str)] (defScope s__law_any) := ⟨rfl, rfl, rfl, by decide +kernel, rfl, by decide +kernel, by decide +kernel⟩
theorem sc__law_like : FnScope [("_law_found" : Str), ("_law_due" : Str), ("_law_a" : Str), ("_law_b" : Str)] [("_law_found" : Str), ("_law_due" : Str)] (defScope s__law_like) := ⟨rfl, rfl, rfl, by decide +kernel, rfl, by decide +kernel, by decide +kernel⟩
theorem sc__law_field : FnScope [("_law_e" : Str)] [("_law_e" : Str)] (defScope s__law_field) := ⟨rfl, rfl, rfl, by decide +kernel, rfl, by decide +kernel, by decide +kernel⟩
theorem sc__law_try : FnScope [("_law_ask" : Str), ("_law_e" : Str)] [("_law_ask" : Str)] (defScope s__law_try) := ⟨rfl, rfl, rfl, by decide +kernel, rfl, by decide +kernel, by decide +kernel⟩
theorem sc__law_errors : FnScope [("_law_asks" : Str), ("_law_ask" : Str)] [("_law_asks" : Str)] (defScope s__law_errors) := ⟨rfl, rfl, rfl, by decide +kernel, rfl, by decide +kernel, by decide +kernel⟩
theorem sc__law_ratio : FnScope [("_law_top" : Str), ("_law_bottom" : Str), ("_law_left" : Str), ("_law_right" : Str)] [("_law_top" : Str), ("_law_bottom" : Str)] (defScope s__law_ratio) := ⟨rfl, rfl, rfl, by decide +kernel, rfl, by decide +kernel, by decide +kernel⟩
theorem sc__law_pair : FnScope [("_law_share_here" : Str)] [("_law_share_here" : Str)] (defScope s__law_pair) := ⟨rfl, rfl, rfl, by decide +kernel, rfl, by decide +kernel, by decide +kernel⟩
theorem sc__law_share : FnScope [("_law_pair_here" : Str)] [("_law_pair_here" : Str)] (defScope s__law_share) := ⟨rfl, rfl, rfl, by decide +kernel, rfl, by decide +kernel, by decide +kernel⟩
theorem sc__law_some_pair : FnScope [("_law_bag" : Str), ("_law_low" : Str), ("_law_high" : Str), ("_law_bottoms" : Str)] [("_law_bag" : Str), ("_law_low" : Str), ("_law_high" : Str), ("_law_bottoms" : Str)] (defScope s__law_some_pair) := ⟨rfl, rfl, rfl, by decide +kernel, rfl, by decide +kernel, by decide +kernel⟩
theorem sc_law : FnScope [("_law_script" : Str), ("_law_bag" : Str), ("_law_turn" : Str), ("_law_pair_here" : Str), ("_law_share_here" : Str), ("_law_odd" : Str), ("_law_low" : Str), ("_law_far" : Str), ("_law_asks" : Str)] [("_law_script" : Str)] (defScope s_law) := ⟨rfl, rfl, rfl, by decide +kernel, rfl, by decide +kernel, by decide +kernel⟩
structure Gs (P : Program) (K : PySem.W.Frag) (mg : Str → Option Value) : Prop where
  d_is_integer : Df K mg "is_integer" s_is_integer
  d_is_within : Df K mg "is_within" s_is_within
  d_divisor : Df K mg "divisor" s_divisor
  d_ratio : Df K mg "ratio" s_ratio
  d_plus : Df K mg "plus" s_plus
  d_minus : Df K mg "minus" s_minus
  d_product : Df K mg "product" s_product
  d_quotient : Df K mg "quotient" s_quotient
  d_raised : Df K mg "raised" s_raised
  d_is_less : Df K mg "is_less" s_is_less
  d_pair_of : Df K mg "pair_of" s_pair_of
  d_need_pair : Df K mg "need_pair" s_need_pair
  d_share_of : Df K mg "share_of" s_share_of
  d_Share___init__ : DfI K "Share" "Share.__init__" s_Share___init__ [V.int 1]
  d_Share_top : DfP K "Share" "top" "Share.top" s_Share_top
  d_Share_bottom : DfP K "Share" "bottom" "Share.bottom" s_Share_bottom
  d_Share_is_below : DfM K "Share" "is_below" "Share.is_below" s_Share_is_below []
  d_Share_power : DfM K "Share" "power" "Share.power" s_Share_power []
  d_Share___add__ : DfM K "Share" "__add__" "Share.__add__" s_Share___add__ []
  d_Share___sub__ : DfM K "Share" "__sub__" "Share.__sub__" s_Share___sub__ []
  d_Share___mul__ : DfM K "Share" "__mul__" "Share.__mul__" s_Share___mul__ []
  d_Share_divided_by : DfM K "Share" "divided_by" "Share.divided_by" s_Share_divided_by []
  d__law_cells : Df K mg "_law_cells" s__law_cells
  d__law_draw : Df K mg "_law_draw" s__law_draw
  d__law_any : Df K mg "_law_any" s__law_any
  d__law_like : Df K mg "_law_like" s__law_like
  d__law_field : Df K mg "_law_field" s__law_field
  d__law_try : Df K mg "_law_try" s__law_try
  d__law_errors : Df K mg "_law_errors" s__law_errors
  d__law_ratio : Df K mg "_law_ratio" s__law_ratio
  d__law_pair : Df K mg "_law_pair" s__law_pair
  d__law_share : Df K mg "_law_share" s__law_share
  d__law_some_pair : Df K mg "_law_some_pair" s__law_some_pair
  d_law : Df K mg "law" s_law
  g_Share : mg "Share" = some (.ref (He.ga K "Share"))
  cl_Share : Cls K (He.ga K "Share")
  na_Share_pair : NoAttr K (He.ga K "Share") "pair"
  ot_Share___add__ : ∀ T ∈ ["bool", "NoneType", "str", "tuple", "list", "int"], OwnT K "Share" Operator.Add T
  ob_Share___add__ : OwnB K "Share" Operator.Add (He.ma K (He.ga K "Share") "__add__")
  or_Share___add__ : OwnR K "Share" Operator.Add
  ot_Share___mul__ : ∀ T ∈ ["bool", "NoneType", "str", "tuple", "list", "int"], OwnT K "Share" Operator.Mult T
  ob_Share___mul__ : OwnB K "Share" Operator.Mult (He.ma K (He.ga K "Share") "__mul__")
  or_Share___mul__ : OwnR K "Share" Operator.Mult
  ot_Share___sub__ : ∀ T ∈ ["bool", "NoneType", "str", "tuple", "list", "int"], OwnT K "Share" Operator.Sub T
  ob_Share___sub__ : OwnB K "Share" Operator.Sub (He.ma K (He.ga K "Share") "__sub__")
  or_Share___sub__ : OwnR K "Share" Operator.Sub
  c_MOST_COUNT : ∃ t, mg "MOST_COUNT" = some (.int 1000 t)
  x_InvalidCount : XcD P K mg "InvalidCount" [("given" : Str)] [73, 110, 118, 97, 108, 105, 100, 67, 111, 117, 110, 116]
  x_InvalidShare : XcD P K mg "InvalidShare" [] [73, 110, 118, 97, 108, 105, 100, 83, 104, 97, 114, 101]
  g_ScrawlError : mg "ScrawlError" = some (.ref (He.ga K "ScrawlError"))
  g_Missing : mg "Missing" = some (.ref (He.ga K "Missing"))
  g_NothingLeft : mg "NothingLeft" = some (.ref (He.ga K "NothingLeft"))
  xf : XfT K xfT
  tb : ∀ c ∈ excT, PySem.W.exmAny K (.ref (He.ga K c)) [.ref (He.ga K "ScrawlError"), .ref (He.ga K "Missing"), .ref (He.ga K "NothingLeft")] = some true
  hdl : PySem.W.codeHdIn K (He.cT K ("law", none)).1 (He.cT K ("law", none)).2 = true
  uni : tabUB K ("law", none) = true
  gl_law : mg "law" = some (.ref (He.fAd K ("law", none)))
  fr_isinstance : mg "isinstance" = none
  fr_bool : mg "bool" = none
  fr_int : mg "int" = none
  fr_abs : mg "abs" = none
  fr_list : mg "list" = none
  fr_len : mg "len" = none
  fr_tuple : mg "tuple" = none
  fr_all : mg "all" = none
  fr_zip : mg "zip" = none
  fr_str : mg "str" = none
  fr_range : mg "range" = none
  fr_super : mg "super" = none
  ans : AnsOk K (ansW [((.own "Share", .own "Share"), true), ((.ty "bool", .own "Share"), false), ((.ty "NoneType", .own "Share"), false), ((.ty "str", .own "Share"), false), ((.ty "tuple", .own "Share"), false), ((.ty "list", .own "Share"), false), ((.ty "int", .own "Share"), false)])
section
variable [TheW]
def wb_is_integer  : DS := (wRet (wAndV (wCall (oIsi (ansW [((.own "Share", .own "Share"), true), ((.ty "bool", .own "Share"), false), ((.ty "NoneType", .own "Share"), false), ((.ty "str", .own "Share"), false), ((.ty "tuple", .own "Share"), false), ((.ty "list", .own "Share"), false), ((.ty "int", .own "Share"), false)])) (wCons (wVar 0) (wCons (wC (.ty "int")) wNil))) (wNotV (wCall (oIsi (ansW [((.own "Share", .own "Share"), true), ((.ty "bool", .own "Share"), false), ((.ty "NoneType", .own "Share"), false), ((.ty "str", .own "Share"), false), ((.ty "tuple", .own "Share"), false), ((.ty "list", .own "Share"), false), ((.ty "int", .own "Share"), false)])) (wCons (wVar 0) (wCons (wC (.ty "bool")) wNil))))))
theorem bd_is_integer {P : Program} {w : World} {K : PySem.W.Frag} {mg : Str → Option Value} {base : Heap} {k : Nat} (G : Gs P K mg)  :
    BodyD P w K mg base "is_integer" s_is_integer [("value" : Str)] k (wb_is_integer ) :=
  fun f cdv A outer s H E n hr => (pssd_one (psd_ret (pd_and (pd_isi G.ans (by rfl) G.fr_isinstance (pad_cons (pd_var 0) (pad_cons (pd_gTy (by rfl) G.fr_int (by decide +kernel)) pad_nil))) (pd_one (pd_not (pd_isi G.ans (by rfl) G.fr_isinstance (pad_cons (pd_var 0) (pad_cons (pd_gTy (by rfl) G.fr_bool (by decide +kernel)) pad_nil))))))))
def wb_is_within (c_is_integer : DSp) : DS := (wRet (wAndV (wCalN 1 c_is_integer (wCons (wVar 0) wNil)) (wChain oLe oLe (wVar 1) (wVar 0) (wVar 2))))
theorem bd_is_within {P : Program} {w : World} {K : PySem.W.Frag} {mg : Str → Option Value} {base : Heap} {k : Nat} (G : Gs P K mg) {k_is_integer : Nat} {c_is_integer : DSp} (l_is_integer : k_is_integer ≤ k) (h_is_integer : FnD P w K mg base "is_integer" k_is_integer 1 c_is_integer) :
    BodyD P w K mg base "is_within" s_is_within [("value" : Str), ("least" : Str), ("most" : Str)] k (wb_is_within c_is_integer) :=
  fun f cdv A outer s H E n hr => (pssd_one (psd_ret (pd_and (pd_calN h_is_integer (hr.mono (by omega)) (by rfl) (pad_cons (pd_var 0) pad_nil)) (pd_one (pd_chain op_le op_le ops_le ops_le (pd_var 1) (pd_var 0) (pd_var 2))))))
def wb_divisor  : DS := (wSeq (wWhile (wTest (wOp oGt (wVar 1) (wC (.int 0)))) (wPar 0 1 (wCons (wVar 1) (wCons (wOp oMod (wVar 0) (wVar 1)) wNil))))
  (wRet (wVar 0)))
theorem bd_divisor {P : Program} {w : World} {K : PySem.W.Frag} {mg : Str → Option Value} {base : Heap} {k : Nat} (G : Gs P K mg)  :
    BodyD P w K mg base "divisor" s_divisor [("one" : Str), ("other" : Str)] k (wb_divisor ) :=
  fun f cdv A outer s H E n hr => (pssd_cons (psd_while (passes_of rfl) (ptd_gt (pd_var 1) pd_int)
  (pssd_one (psd_par (i := 0) (j := 1) rfl sc_divisor.nd (pad_cons (pd_var 1) (pad_cons (pd_mod (pd_var 0) (pd_var 1)) pad_nil)))))
  (pssd_one (psd_ret (pd_var 0))))
def wb_ratio (c_divisor : DSp) : DS := (wSeq (wIfS (wTest (wOp oLt (wVar 1) (wC (.int 0)))) (wPar 0 1 (wCons (wNeg (wVar 0)) (wCons (wNeg (wVar 1)) wNil))) wNext)
  (wSeq (wAsg (wCalN 2 c_divisor (wCons (wCall oAbs (wCons (wVar 0) wNil)) (wCons (wVar 1) wNil))) (gN 2))
  (wRet (wTup (wCons (wOp oFdiv (wVar 0) (wVar 2)) (wCons (wOp oFdiv (wVar 1) (wVar 2)) wNil))))))
theorem bd_ratio {P : Program} {w : World} {K : PySem.W.Frag} {mg : Str → Option Value} {base : Heap} {k : Nat} (G : Gs P K mg) {k_divisor : Nat} {c_divisor : DSp} (l_divisor : k_divisor ≤ k) (h_divisor : FnD P w K mg base "divisor" k_divisor 2 c_divisor) :
    BodyD P w K mg base "ratio" s_ratio [("top" : Str), ("bottom" : Str), ("common" : Str)] k (wb_ratio c_divisor) :=
  fun f cdv A outer s H E n hr => (pssd_cons (psd_if (ptd_lt (pd_var 1) pd_int)
  (pssd_one (psd_par (i := 0) (j := 1) rfl sc_ratio.nd (pad_cons (pd_neg (pd_var 0)) (pad_cons (pd_neg (pd_var 1)) pad_nil))))
  pssd_nil)
  (pssd_cons (psd_set (i := 2) sc_ratio.nd (pd_calN h_divisor (hr.mono (by omega)) (by rfl) (pad_cons (pd_abs (by rfl) G.fr_abs (pad_cons (pd_var 0) pad_nil)) (pad_cons (pd_var 1) pad_nil))))
  (pssd_one (psd_ret (pd_tup (pad_cons (pd_fdiv (pd_var 0) (pd_var 2)) (pad_cons (pd_fdiv (pd_var 1) (pd_var 2)) pad_nil)))))))
def wb_plus (c_ratio : DSp) : DS := (wRet (wCalN 2 c_ratio (wCons (wOp oAdd (wOp oMul (wIx (wVar 0) (wC (.int 0))) (wIx (wVar 1) (wC (.int 1)))) (wOp oMul (wIx (wVar 1) (wC (.int 0))) (wIx (wVar 0) (wC (.int 1))))) (wCons (wOp oMul (wIx (wVar 0) (wC (.int 1))) (wIx (wVar 1) (wC (.int 1)))) wNil))))
theorem bd_plus {P : Program} {w : World} {K : PySem.W.Frag} {mg : Str → Option Value} {base : Heap} {k : Nat} (G : Gs P K mg) {k_ratio : Nat} {c_ratio : DSp} (l_ratio : k_ratio ≤ k) (h_ratio : FnD P w K mg base "ratio" k_ratio 2 c_ratio) :
    BodyD P w K mg base "plus" s_plus [("one" : Str), ("other" : Str)] k (wb_plus c_ratio) :=
  fun f cdv A outer s H E n hr => (pssd_one (psd_ret (pd_calN h_ratio (hr.mono (by omega)) (by rfl) (pad_cons (pd_add (pd_mul (pd_ixW (pd_var 0) pd_int) (pd_ixW (pd_var 1) pd_int)) (pd_mul (pd_ixW (pd_var 1) pd_int) (pd_ixW (pd_var 0) pd_int))) (pad_cons (pd_mul (pd_ixW (pd_var 0) pd_int) (pd_ixW (pd_var 1) pd_int)) pad_nil)))))
def wb_minus (c_ratio : DSp) : DS := (wRet (wCalN 2 c_ratio (wCons (wOp oSub (wOp oMul (wIx (wVar 0) (wC (.int 0))) (wIx (wVar 1) (wC (.int 1)))) (wOp oMul (wIx (wVar 1) (wC (.int 0))) (wIx (wVar 0) (wC (.int 1))))) (wCons (wOp oMul (wIx (wVar 0) (wC (.int 1))) (wIx (wVar 1) (wC (.int 1)))) wNil))))
theorem bd_minus {P : Program} {w : World} {K : PySem.W.Frag} {mg : Str → Option Value} {base : Heap} {k : Nat} (G : Gs P K mg) {k_ratio : Nat} {c_ratio : DSp} (l_ratio : k_ratio ≤ k) (h_ratio : FnD P w K mg base "ratio" k_ratio 2 c_ratio) :
    BodyD P w K mg base "minus" s_minus [("one" : Str), ("other" : Str)] k (wb_minus c_ratio) :=
  fun f cdv A outer s H E n hr => (pssd_one (psd_ret (pd_calN h_ratio (hr.mono (by omega)) (by rfl) (pad_cons (pd_sub (pd_mul (pd_ixW (pd_var 0) pd_int) (pd_ixW (pd_var 1) pd_int)) (pd_mul (pd_ixW (pd_var 1) pd_int) (pd_ixW (pd_var 0) pd_int))) (pad_cons (pd_mul (pd_ixW (pd_var 0) pd_int) (pd_ixW (pd_var 1) pd_int)) pad_nil)))))
def wb_product (c_ratio : DSp) : DS := (wRet (wCalN 2 c_ratio (wCons (wOp oMul (wIx (wVar 0) (wC (.int 0))) (wIx (wVar 1) (wC (.int 0)))) (wCons (wOp oMul (wIx (wVar 0) (wC (.int 1))) (wIx (wVar 1) (wC (.int 1)))) wNil))))
theorem bd_product {P : Program} {w : World} {K : PySem.W.Frag} {mg : Str → Option Value} {base : Heap} {k : Nat} (G : Gs P K mg) {k_ratio : Nat} {c_ratio : DSp} (l_ratio : k_ratio ≤ k) (h_ratio : FnD P w K mg base "ratio" k_ratio 2 c_ratio) :
    BodyD P w K mg base "product" s_product [("one" : Str), ("other" : Str)] k (wb_product c_ratio) :=
  fun f cdv A outer s H E n hr => (pssd_one (psd_ret (pd_calN h_ratio (hr.mono (by omega)) (by rfl) (pad_cons (pd_mul (pd_ixW (pd_var 0) pd_int) (pd_ixW (pd_var 1) pd_int)) (pad_cons (pd_mul (pd_ixW (pd_var 0) pd_int) (pd_ixW (pd_var 1) pd_int)) pad_nil)))))
def wb_quotient (c_ratio : DSp) : DS := (wRet (wCalN 2 c_ratio (wCons (wOp oMul (wIx (wVar 0) (wC (.int 0))) (wIx (wVar 1) (wC (.int 1)))) (wCons (wOp oMul (wIx (wVar 0) (wC (.int 1))) (wIx (wVar 1) (wC (.int 0)))) wNil))))
theorem bd_quotient {P : Program} {w : World} {K : PySem.W.Frag} {mg : Str → Option Value} {base : Heap} {k : Nat} (G : Gs P K mg) {k_ratio : Nat} {c_ratio : DSp} (l_ratio : k_ratio ≤ k) (h_ratio : FnD P w K mg base "ratio" k_ratio 2 c_ratio) :
    BodyD P w K mg base "quotient" s_quotient [("one" : Str), ("other" : Str)] k (wb_quotient c_ratio) :=
  fun f cdv A outer s H E n hr => (pssd_one (psd_ret (pd_calN h_ratio (hr.mono (by omega)) (by rfl) (pad_cons (pd_mul (pd_ixW (pd_var 0) pd_int) (pd_ixW (pd_var 1) pd_int)) (pad_cons (pd_mul (pd_ixW (pd_var 0) pd_int) (pd_ixW (pd_var 1) pd_int)) pad_nil)))))
def wb_raised  : DS := (wSeq (wAsg (wTup (wCons (wIx (wVar 0) (wC (.int 0))) (wCons (wIx (wVar 0) (wC (.int 1))) (wCons (wTup (wCons (wC (.int 1)) (wCons (wC (.int 1)) wNil))) (wCons (wVar 1) wNil))))) (gT 4 (gsCons (gN 2) (gsCons (gN 3) (gsCons (gN 4) (gsCons (gN 5) gsNil))))))
  (wSeq (wWhile (wTest (wOp oGt (wVar 5) (wC (.int 0)))) (wSeq (wIfS (wTest (wOp oEq (wOp oMod (wVar 5) (wC (.int 2))) (wC (.int 1)))) (wAsg (wTup (wCons (wOp oMul (wIx (wVar 4) (wC (.int 0))) (wVar 2)) (wCons (wOp oMul (wIx (wVar 4) (wC (.int 1))) (wVar 3)) wNil))) (gN 4)) wNext)
  (wPar3 2 3 5 (wCons (wOp oMul (wVar 2) (wVar 2)) (wCons (wOp oMul (wVar 3) (wVar 3)) (wCons (wOp oFdiv (wVar 5) (wC (.int 2))) wNil))))))
  (wRet (wVar 4))))
theorem bd_raised {P : Program} {w : World} {K : PySem.W.Frag} {mg : Str → Option Value} {base : Heap} {k : Nat} (G : Gs P K mg)  :
    BodyD P w K mg base "raised" s_raised [("pair" : Str), ("count" : Str), ("top" : Str), ("bottom" : Str), ("found" : Str), ("left" : Str)] k (wb_raised ) :=
  fun f cdv A outer s H E n hr => (pssd_cons (psd_asg (pd_tup (pad_cons (pd_ixW (pd_var 0) pd_int) (pad_cons (pd_ixW (pd_var 0) pd_int) (pad_cons (pd_tup (pad_cons pd_int (pad_cons pd_int pad_nil))) (pad_cons (pd_var 1) pad_nil))))) (pgd_tup rfl (pgsd_cons (pgd_name sc_raised.nd) (pgsd_cons (pgd_name sc_raised.nd) (pgsd_cons (pgd_name sc_raised.nd) (pgsd_cons (pgd_name sc_raised.nd) pgsd_nil))))))
  (pssd_cons (psd_while (passes_of rfl) (ptd_gt (pd_var 5) pd_int)
  (pssd_cons (psd_if (ptd_eq hr (pd_mod (pd_var 5) pd_int) pd_int)
  (pssd_one (psd_set (i := 4) sc_raised.nd (pd_tup (pad_cons (pd_mul (pd_ixW (pd_var 4) pd_int) (pd_var 2)) (pad_cons (pd_mul (pd_ixW (pd_var 4) pd_int) (pd_var 3)) pad_nil)))))
  pssd_nil)
  (pssd_one (psd_par3 (i := 2) (j := 3) (l := 5) rfl sc_raised.nd (pad_cons (pd_mul (pd_var 2) (pd_var 2)) (pad_cons (pd_mul (pd_var 3) (pd_var 3)) (pad_cons (pd_fdiv (pd_var 5) pd_int) pad_nil)))))))
  (pssd_one (psd_ret (pd_var 4)))))
def wb_is_less  : DS := (wRet (wOp oLt (wOp oMul (wIx (wVar 0) (wC (.int 0))) (wIx (wVar 1) (wC (.int 1)))) (wOp oMul (wIx (wVar 1) (wC (.int 0))) (wIx (wVar 0) (wC (.int 1))))))
theorem bd_is_less {P : Program} {w : World} {K : PySem.W.Frag} {mg : Str → Option Value} {base : Heap} {k : Nat} (G : Gs P K mg)  :
    BodyD P w K mg base "is_less" s_is_less [("one" : Str), ("other" : Str)] k (wb_is_less ) :=
  fun f cdv A outer s H E n hr => (pssd_one (psd_ret (pd_lt (pd_mul (pd_ixW (pd_var 0) pd_int) (pd_ixW (pd_var 1) pd_int)) (pd_mul (pd_ixW (pd_var 1) pd_int) (pd_ixW (pd_var 0) pd_int)))))
def wb_pair_of (c_Share_bottom : DSp) (c_Share_top : DSp) (c_is_integer : DSp) : DS := (wSeq (wIfS (wTest (wCall (oIsi (ansW [((.own "Share", .own "Share"), true), ((.ty "bool", .own "Share"), false), ((.ty "NoneType", .own "Share"), false), ((.ty "str", .own "Share"), false), ((.ty "tuple", .own "Share"), false), ((.ty "list", .own "Share"), false), ((.ty "int", .own "Share"), false)])) (wCons (wVar 0) (wCons (wC (.cls "Share")) wNil)))) (wRet (wTup (wCons (wProp "Share" c_Share_top (wVar 0)) (wCons (wProp "Share" c_Share_bottom (wVar 0)) wNil)))) wNext)
  (wRet (wIf (wTest (wCalN 1 c_is_integer (wCons (wVar 0) wNil))) (wTup (wCons (wVar 0) (wCons (wC (.int 1)) wNil))) (wC .non))))
theorem bd_pair_of {P : Program} {w : World} {K : PySem.W.Frag} {mg : Str → Option Value} {base : Heap} {k : Nat} (G : Gs P K mg) {k_Share_bottom : Nat} {c_Share_bottom : DSp} (l_Share_bottom : k_Share_bottom + 1 ≤ k) (p_Share_bottom : PrD P w K mg base "Share" "bottom" k_Share_bottom c_Share_bottom) {k_Share_top : Nat} {c_Share_top : DSp} (l_Share_top : k_Share_top + 1 ≤ k) (p_Share_top : PrD P w K mg base "Share" "top" k_Share_top c_Share_top) {k_is_integer : Nat} {c_is_integer : DSp} (l_is_integer : k_is_integer ≤ k) (h_is_integer : FnD P w K mg base "is_integer" k_is_integer 1 c_is_integer) :
    BodyD P w K mg base "pair_of" s_pair_of [("value" : Str)] k (wb_pair_of c_Share_bottom c_Share_top c_is_integer) :=
  fun f cdv A outer s H E n hr => (pssd_cons (psd_if (ptd_val (pd_isi G.ans (by rfl) G.fr_isinstance (pad_cons (pd_var 0) (pad_cons (pd_gCls (by rfl) G.g_Share) pad_nil))))
  (pssd_one (psd_ret (pd_tup (pad_cons (pd_prop p_Share_top (hr.mono (by omega)) (pd_var 0)) (pad_cons (pd_prop p_Share_bottom (hr.mono (by omega)) (pd_var 0)) pad_nil)))))
  pssd_nil)
  (pssd_one (psd_ret (pd_if (ptd_val (pd_calN h_is_integer (hr.mono (by omega)) (by rfl) (pad_cons (pd_var 0) pad_nil))) (pd_tup (pad_cons (pd_var 0) (pad_cons pd_int pad_nil))) pd_non))))
def wb_need_pair (c_pair_of : DSp) : DS := (wSeq (wAsg (wCalN 1 c_pair_of (wCons (wVar 0) wNil)) (gN 1))
  (wSeq (wIfS (wTest (wOp oIsN (wVar 1) (wC .non))) (wRaise "InvalidShare" [] [73, 110, 118, 97, 108, 105, 100, 83, 104, 97, 114, 101] wNil) wNext)
  (wRet (wVar 1))))
theorem bd_need_pair {P : Program} {w : World} {K : PySem.W.Frag} {mg : Str → Option Value} {base : Heap} {k : Nat} (G : Gs P K mg) (l1 : 1 ≤ k) (x_InvalidShare : XcD P K mg "InvalidShare" [] [73, 110, 118, 97, 108, 105, 100, 83, 104, 97, 114, 101]) {k_pair_of : Nat} {c_pair_of : DSp} (l_pair_of : k_pair_of ≤ k) (h_pair_of : FnD P w K mg base "pair_of" k_pair_of 1 c_pair_of) :
    BodyD P w K mg base "need_pair" s_need_pair [("value" : Str), ("found" : Str)] k (wb_need_pair c_pair_of) :=
  fun f cdv A outer s H E n hr => (pssd_cons (psd_set (i := 1) sc_need_pair.nd (pd_calN h_pair_of (hr.mono (by omega)) (by rfl) (pad_cons (pd_var 0) pad_nil)))
  (pssd_cons (psd_if (ptd_isN (pd_var 1) pd_non)
  (pssd_one (psd_raise0 x_InvalidShare (hr.mono (by omega)) rfl (by rfl)))
  pssd_nil)
  (pssd_one (psd_ret (pd_var 1)))))
def wb_share_of (c_Share___init__ : DSp) : DS := (wRet (wMake "Share" c_Share___init__ 3 [] (wCons (wIx (wVar 0) (wC (.int 0))) (wCons (wIx (wVar 0) (wC (.int 1))) wNil))))
theorem bd_share_of {P : Program} {w : World} {K : PySem.W.Frag} {mg : Str → Option Value} {base : Heap} {k : Nat} (G : Gs P K mg) {k_Share___init__ : Nat} {c_Share___init__ : DSp} (l_Share___init__ : k_Share___init__ + 1 ≤ k) (i2_Share : MkD P w K mg base "Share" k_Share___init__ 3 [] c_Share___init__) :
    BodyD P w K mg base "share_of" s_share_of [("pair" : Str)] k (wb_share_of c_Share___init__) :=
  fun f cdv A outer s H E n hr => (pssd_one (psd_ret (pd_make i2_Share (hr.mono (by omega)) (by rfl) (pad_cons (pd_ixW (pd_var 0) pd_int) (pad_cons (pd_ixW (pd_var 0) pd_int) pad_nil)))))
def wb_Share___init__ (c_is_integer : DSp) (c_ratio : DSp) : DS := (wSeq (wIfS (wOrT (wNotT (wTest (wCalN 1 c_is_integer (wCons (wVar 1) wNil)))) (wOrT (wNotT (wTest (wCalN 1 c_is_integer (wCons (wVar 2) wNil)))) (wTest (wOp oLt (wVar 2) (wC (.int 1)))))) (wRaise "InvalidShare" [] [73, 110, 118, 97, 108, 105, 100, 83, 104, 97, 114, 101] wNil) wNext)
  (wSetF "Share" "pair" (wVar 0) (wCalN 2 c_ratio (wCons (wVar 1) (wCons (wVar 2) wNil)))))
theorem bd_Share___init__ {P : Program} {w : World} {K : PySem.W.Frag} {mg : Str → Option Value} {base : Heap} {k : Nat} (G : Gs P K mg) (l1 : 1 ≤ k) (x_InvalidShare : XcD P K mg "InvalidShare" [] [73, 110, 118, 97, 108, 105, 100, 83, 104, 97, 114, 101]) {k_is_integer : Nat} {c_is_integer : DSp} (l_is_integer : k_is_integer ≤ k) (h_is_integer : FnD P w K mg base "is_integer" k_is_integer 1 c_is_integer) {k_ratio : Nat} {c_ratio : DSp} (l_ratio : k_ratio ≤ k) (h_ratio : FnD P w K mg base "ratio" k_ratio 2 c_ratio) :
    BodyQ P w K mg base "Share.__init__" s_Share___init__ [("self" : Str), ("top" : Str), ("bottom" : Str)] k (wb_Share___init__ c_is_integer c_ratio) :=
  fun f cdv A outer s H E n hr => (pssd_cons (psd_if (PWD.pt (pwd_or (ptd_not (ptd_val (pd_calN h_is_integer (hr.mono (by omega)) (by rfl) (pad_cons (pd_var 1) pad_nil)))) (pwd_or (ptd_not (ptd_val (pd_calN h_is_integer (hr.mono (by omega)) (by rfl) (pad_cons (pd_var 2) pad_nil)))) (pwd_or1 (ptd_lt (pd_var 2) pd_int)))))
  (pssd_one (psd_raise0 x_InvalidShare (hr.mono (by omega)) rfl (by rfl)))
  pssd_nil)
  (pssd_one (psd_fld G.cl_Share G.na_Share_pair (pd_var 0) (pd_calN h_ratio (hr.mono (by omega)) (by rfl) (pad_cons (pd_var 1) (pad_cons (pd_var 2) pad_nil))))))
def wb_Share_top  : DS := (wRet (wIx (wFld "Share" "pair" (wVar 0)) (wC (.int 0))))
theorem bd_Share_top {P : Program} {w : World} {K : PySem.W.Frag} {mg : Str → Option Value} {base : Heap} {k : Nat} (G : Gs P K mg)  :
    BodyQ P w K mg base "Share.top" s_Share_top [("self" : Str)] k (wb_Share_top ) :=
  fun f cdv A outer s H E n hr => (pssd_one (psd_ret (pd_ixW (pd_fld G.cl_Share G.na_Share_pair (pd_var 0)) pd_int)))
def wb_Share_bottom  : DS := (wRet (wIx (wFld "Share" "pair" (wVar 0)) (wC (.int 1))))
theorem bd_Share_bottom {P : Program} {w : World} {K : PySem.W.Frag} {mg : Str → Option Value} {base : Heap} {k : Nat} (G : Gs P K mg)  :
    BodyQ P w K mg base "Share.bottom" s_Share_bottom [("self" : Str)] k (wb_Share_bottom ) :=
  fun f cdv A outer s H E n hr => (pssd_one (psd_ret (pd_ixW (pd_fld G.cl_Share G.na_Share_pair (pd_var 0)) pd_int)))
def wb_Share_is_below (c_is_less : DSp) (c_need_pair : DSp) : DS := (wRet (wCalN 2 c_is_less (wCons (wFld "Share" "pair" (wVar 0)) (wCons (wCalN 1 c_need_pair (wCons (wVar 1) wNil)) wNil))))
theorem bd_Share_is_below {P : Program} {w : World} {K : PySem.W.Frag} {mg : Str → Option Value} {base : Heap} {k : Nat} (G : Gs P K mg) {k_is_less : Nat} {c_is_less : DSp} (l_is_less : k_is_less ≤ k) (h_is_less : FnD P w K mg base "is_less" k_is_less 2 c_is_less) {k_need_pair : Nat} {c_need_pair : DSp} (l_need_pair : k_need_pair ≤ k) (h_need_pair : FnD P w K mg base "need_pair" k_need_pair 1 c_need_pair) :
    BodyQ P w K mg base "Share.is_below" s_Share_is_below [("self" : Str), ("other" : Str)] k (wb_Share_is_below c_is_less c_need_pair) :=
  fun f cdv A outer s H E n hr => (pssd_one (psd_ret (pd_calN h_is_less (hr.mono (by omega)) (by rfl) (pad_cons (pd_fld G.cl_Share G.na_Share_pair (pd_var 0)) (pad_cons (pd_calN h_need_pair (hr.mono (by omega)) (by rfl) (pad_cons (pd_var 1) pad_nil)) pad_nil)))))
def wb_Share_power (c_is_within : DSp) (c_raised : DSp) (c_share_of : DSp) : DS := (wSeq (wIfS (wNotT (wTest (wCalN 3 c_is_within (wCons (wVar 1) (wCons (wC (.int 0)) (wCons (wC (.int 1000)) wNil)))))) (wRaise "InvalidCount" [("given" : Str)] [73, 110, 118, 97, 108, 105, 100, 67, 111, 117, 110, 116] (wCons (wVar 1) wNil)) wNext)
  (wRet (wCalN 1 c_share_of (wCons (wCalN 2 c_raised (wCons (wFld "Share" "pair" (wVar 0)) (wCons (wVar 1) wNil))) wNil))))
theorem bd_Share_power {P : Program} {w : World} {K : PySem.W.Frag} {mg : Str → Option Value} {base : Heap} {k : Nat} (G : Gs P K mg) (l1 : 1 ≤ k) (x_InvalidCount : XcD P K mg "InvalidCount" [("given" : Str)] [73, 110, 118, 97, 108, 105, 100, 67, 111, 117, 110, 116]) {k_is_within : Nat} {c_is_within : DSp} (l_is_within : k_is_within ≤ k) (h_is_within : FnD P w K mg base "is_within" k_is_within 3 c_is_within) {k_raised : Nat} {c_raised : DSp} (l_raised : k_raised ≤ k) (h_raised : FnD P w K mg base "raised" k_raised 2 c_raised) {k_share_of : Nat} {c_share_of : DSp} (l_share_of : k_share_of ≤ k) (h_share_of : FnD P w K mg base "share_of" k_share_of 1 c_share_of) :
    BodyQ P w K mg base "Share.power" s_Share_power [("self" : Str), ("count" : Str)] k (wb_Share_power c_is_within c_raised c_share_of) :=
  fun f cdv A outer s H E n hr => (pssd_cons (psd_if (ptd_not (ptd_val (pd_calN h_is_within (hr.mono (by omega)) (by rfl) (pad_cons (pd_var 1) (pad_cons pd_int (pad_cons (pd_gInt (by rfl) G.c_MOST_COUNT) pad_nil))))))
  (pssd_one (psd_raise x_InvalidCount (hr.mono (by omega)) rfl (by rfl) (pad_cons (pd_var 1) pad_nil)))
  pssd_nil)
  (pssd_one (psd_ret (pd_calN h_share_of (hr.mono (by omega)) (by rfl) (pad_cons (pd_calN h_raised (hr.mono (by omega)) (by rfl) (pad_cons (pd_fld G.cl_Share G.na_Share_pair (pd_var 0)) (pad_cons (pd_var 1) pad_nil))) pad_nil)))))
def wb_Share___add__ (c_need_pair : DSp) (c_plus : DSp) (c_share_of : DSp) : DS := (wRet (wCalN 1 c_share_of (wCons (wCalN 2 c_plus (wCons (wFld "Share" "pair" (wVar 0)) (wCons (wCalN 1 c_need_pair (wCons (wVar 1) wNil)) wNil))) wNil)))
theorem bd_Share___add__ {P : Program} {w : World} {K : PySem.W.Frag} {mg : Str → Option Value} {base : Heap} {k : Nat} (G : Gs P K mg) {k_need_pair : Nat} {c_need_pair : DSp} (l_need_pair : k_need_pair ≤ k) (h_need_pair : FnD P w K mg base "need_pair" k_need_pair 1 c_need_pair) {k_plus : Nat} {c_plus : DSp} (l_plus : k_plus ≤ k) (h_plus : FnD P w K mg base "plus" k_plus 2 c_plus) {k_share_of : Nat} {c_share_of : DSp} (l_share_of : k_share_of ≤ k) (h_share_of : FnD P w K mg base "share_of" k_share_of 1 c_share_of) :
    BodyQ P w K mg base "Share.__add__" s_Share___add__ [("self" : Str), ("other" : Str)] k (wb_Share___add__ c_need_pair c_plus c_share_of) :=
  fun f cdv A outer s H E n hr => (pssd_one (psd_ret (pd_calN h_share_of (hr.mono (by omega)) (by rfl) (pad_cons (pd_calN h_plus (hr.mono (by omega)) (by rfl) (pad_cons (pd_fld G.cl_Share G.na_Share_pair (pd_var 0)) (pad_cons (pd_calN h_need_pair (hr.mono (by omega)) (by rfl) (pad_cons (pd_var 1) pad_nil)) pad_nil))) pad_nil))))
def wb_Share___sub__ (c_minus : DSp) (c_need_pair : DSp) (c_share_of : DSp) : DS := (wRet (wCalN 1 c_share_of (wCons (wCalN 2 c_minus (wCons (wFld "Share" "pair" (wVar 0)) (wCons (wCalN 1 c_need_pair (wCons (wVar 1) wNil)) wNil))) wNil)))
theorem bd_Share___sub__ {P : Program} {w : World} {K : PySem.W.Frag} {mg : Str → Option Value} {base : Heap} {k : Nat} (G : Gs P K mg) {k_minus : Nat} {c_minus : DSp} (l_minus : k_minus ≤ k) (h_minus : FnD P w K mg base "minus" k_minus 2 c_minus) {k_need_pair : Nat} {c_need_pair : DSp} (l_need_pair : k_need_pair ≤ k) (h_need_pair : FnD P w K mg base "need_pair" k_need_pair 1 c_need_pair) {k_share_of : Nat} {c_share_of : DSp} (l_share_of : k_share_of ≤ k) (h_share_of : FnD P w K mg base "share_of" k_share_of 1 c_share_of) :
    BodyQ P w K mg base "Share.__sub__" s_Share___sub__ [("self" : Str), ("other" : Str)] k (wb_Share___sub__ c_minus c_need_pair c_share_of) :=
  fun f cdv A outer s H E n hr => (pssd_one (psd_ret (pd_calN h_share_of (hr.mono (by omega)) (by rfl) (pad_cons (pd_calN h_minus (hr.mono (by omega)) (by rfl) (pad_cons (pd_fld G.cl_Share G.na_Share_pair (pd_var 0)) (pad_cons (pd_calN h_need_pair (hr.mono (by omega)) (by rfl) (pad_cons (pd_var 1) pad_nil)) pad_nil))) pad_nil))))
def wb_Share___mul__ (c_need_pair : DSp) (c_product : DSp) (c_share_of : DSp) : DS := (wRet (wCalN 1 c_share_of (wCons (wCalN 2 c_product (wCons (wFld "Share" "pair" (wVar 0)) (wCons (wCalN 1 c_need_pair (wCons (wVar 1) wNil)) wNil))) wNil)))
theorem bd_Share___mul__ {P : Program} {w : World} {K : PySem.W.Frag} {mg : Str → Option Value} {base : Heap} {k : Nat} (G : Gs P K mg) {k_need_pair : Nat} {c_need_pair : DSp} (l_need_pair : k_need_pair ≤ k) (h_need_pair : FnD P w K mg base "need_pair" k_need_pair 1 c_need_pair) {k_product : Nat} {c_product : DSp} (l_product : k_product ≤ k) (h_product : FnD P w K mg base "product" k_product 2 c_product) {k_share_of : Nat} {c_share_of : DSp} (l_share_of : k_share_of ≤ k) (h_share_of : FnD P w K mg base "share_of" k_share_of 1 c_share_of) :
    BodyQ P w K mg base "Share.__mul__" s_Share___mul__ [("self" : Str), ("other" : Str)] k (wb_Share___mul__ c_need_pair c_product c_share_of) :=
  fun f cdv A outer s H E n hr => (pssd_one (psd_ret (pd_calN h_share_of (hr.mono (by omega)) (by rfl) (pad_cons (pd_calN h_product (hr.mono (by omega)) (by rfl) (pad_cons (pd_fld G.cl_Share G.na_Share_pair (pd_var 0)) (pad_cons (pd_calN h_need_pair (hr.mono (by omega)) (by rfl) (pad_cons (pd_var 1) pad_nil)) pad_nil))) pad_nil))))
def wb_Share_divided_by (c_need_pair : DSp) (c_quotient : DSp) (c_share_of : DSp) : DS := (wSeq (wAsg (wCalN 1 c_need_pair (wCons (wVar 1) wNil)) (gN 2))
  (wSeq (wIfS (wTest (wOp oEq (wIx (wVar 2) (wC (.int 0))) (wC (.int 0)))) (wRaise "InvalidShare" [] [73, 110, 118, 97, 108, 105, 100, 83, 104, 97, 114, 101] wNil) wNext)
  (wRet (wCalN 1 c_share_of (wCons (wCalN 2 c_quotient (wCons (wFld "Share" "pair" (wVar 0)) (wCons (wVar 2) wNil))) wNil)))))
theorem bd_Share_divided_by {P : Program} {w : World} {K : PySem.W.Frag} {mg : Str → Option Value} {base : Heap} {k : Nat} (G : Gs P K mg) (l1 : 1 ≤ k) (x_InvalidShare : XcD P K mg "InvalidShare" [] [73, 110, 118, 97, 108, 105, 100, 83, 104, 97, 114, 101]) {k_need_pair : Nat} {c_need_pair : DSp} (l_need_pair : k_need_pair ≤ k) (h_need_pair : FnD P w K mg base "need_pair" k_need_pair 1 c_need_pair) {k_quotient : Nat} {c_quotient : DSp} (l_quotient : k_quotient ≤ k) (h_quotient : FnD P w K mg base "quotient" k_quotient 2 c_quotient) {k_share_of : Nat} {c_share_of : DSp} (l_share_of : k_share_of ≤ k) (h_share_of : FnD P w K mg base "share_of" k_share_of 1 c_share_of) :
    BodyQ P w K mg base "Share.divided_by" s_Share_divided_by [("self" : Str), ("other" : Str), ("pair" : Str)] k (wb_Share_divided_by c_need_pair c_quotient c_share_of) :=
  fun f cdv A outer s H E n hr => (pssd_cons (psd_set (i := 2) sc_Share_divided_by.nd (pd_calN h_need_pair (hr.mono (by omega)) (by rfl) (pad_cons (pd_var 1) pad_nil)))
  (pssd_cons (psd_if (ptd_eq hr (pd_ixW (pd_var 2) pd_int) pd_int)
  (pssd_one (psd_raise0 x_InvalidShare (hr.mono (by omega)) rfl (by rfl)))
  pssd_nil)
  (pssd_one (psd_ret (pd_calN h_share_of (hr.mono (by omega)) (by rfl) (pad_cons (pd_calN h_quotient (hr.mono (by omega)) (by rfl) (pad_cons (pd_fld G.cl_Share G.na_Share_pair (pd_var 0)) (pad_cons (pd_var 2) pad_nil))) pad_nil))))))
theorem bd__law_cells {P : Program} {w : World} {K : PySem.W.Frag} {mg : Str → Option Value} {base : Heap} {k : Nat} (G : Gs P K mg)  :
    BodyD P w K mg base "_law_cells" s__law_cells [("_law_script" : Str), ("_law_state" : Str), ("_law_cell" : Str)] k (wb_law_cells) :=
  fun f cdv A outer s H E n hr => (pssd_cons (psd_set (i := 1) sc__law_cells.nd pd_int)
  (pssd_cons (psd_for (passes_of rfl) rfl (pid_any (pd_sliceScr (pd_var 0) pod_none (pod_some pd_int))) (pgd_name sc__law_cells.nd)
  (pssd_one (psd_set (i := 1) sc__law_cells.nd (pd_mod (pd_intI (by rfl) G.fr_int (pad_cons (pd_add (pd_add (pd_mul (pd_var 1) pd_int) (pd_mod (pd_intI (by rfl) G.fr_int (pad_cons (pd_var 2) pad_nil)) pd_int)) pd_int) pad_nil)) pd_int))))
  (pssd_one (psd_ret (pd_lstN (pad_cons (pd_list rfl (by rfl) G.fr_list (pad_cons (pd_sliceScr (pd_var 0) pod_none (pod_some pd_int)) pad_nil)) (pad_cons pd_int (pad_cons pd_int (pad_cons (pd_var 1) (pad_cons pd_int pad_nil))))))))))
theorem bd__law_draw {P : Program} {w : World} {K : PySem.W.Frag} {mg : Str → Option Value} {base : Heap} {k : Nat} (G : Gs P K mg)  :
    BodyD P w K mg base "_law_draw" s__law_draw [("_law_bag" : Str), ("_law_sides" : Str), ("_law_cell" : Str), ("_law_digit" : Str), ("_law_seed" : Str)] k (wb_law_draw) :=
  fun f cdv A outer s H E n hr => (pssd_cons (psd_asg (pd_add (pd_ixW (pd_var 0) pd_int) pd_int) (pgd_sub (pd_var 0) pd_int))
  (pssd_cons (psd_if (PWD.pt (pwd_and (ptd_eq hr (pd_ixW (pd_var 0) pd_int) pd_int) (pwd_and1 (ptd_lt (pd_ixW (pd_var 0) pd_int) (pd_len (by rfl) G.fr_len (pd_ixW (pd_var 0) pd_int))))))
  (pssd_cons (psd_set (i := 2) sc__law_draw.nd (pd_ixW (pd_ixW (pd_var 0) pd_int) (pd_ixW (pd_var 0) pd_int)))
  (pssd_cons (psd_asg (pd_add (pd_ixW (pd_var 0) pd_int) pd_int) (pgd_sub (pd_var 0) pd_int))
  (pssd_one (psd_if (ptd_ge (pd_var 2) (pd_pow pd_int pd_int))
  (pssd_one (psd_asg (pd_var 2) (pgd_sub (pd_var 0) pd_int)))
  (pssd_one (psd_asg (pd_mod (pd_intI (by rfl) G.fr_int (pad_cons (pd_add (pd_add (pd_mul (pd_ixW (pd_var 0) pd_int) pd_int) (pd_mul (pd_mod (pd_intI (by rfl) G.fr_int (pad_cons (pd_var 2) pad_nil)) pd_int) pd_int)) pd_int) pad_nil)) pd_int) (pgd_sub (pd_var 0) pd_int)))))))
  pssd_nil)
  (pssd_cons (psd_if (ptd_gt (pd_ixW (pd_var 0) pd_int) pd_int)
  (pssd_cons (psd_set (i := 3) sc__law_draw.nd (pd_mod (pd_intI (by rfl) G.fr_int (pad_cons (pd_ixW (pd_var 0) pd_int) pad_nil)) (pd_var 1)))
  (pssd_cons (psd_asg (pd_fdiv (pd_ixW (pd_var 0) pd_int) (pd_var 1)) (pgd_sub (pd_var 0) pd_int))
  (pssd_one (psd_ret (pd_var 3)))))
  pssd_nil)
  (pssd_cons (psd_set (i := 4) sc__law_draw.nd (pd_ixW (pd_var 0) pd_int))
  (pssd_cons (psd_asg (pd_mod (pd_intI (by rfl) G.fr_int (pad_cons (pd_add (pd_add (pd_add (pd_pow (pd_var 4) pd_int) (pd_mul (pd_var 4) pd_int)) (pd_mul (pd_ixW (pd_var 0) pd_int) pd_int)) pd_int) pad_nil)) pd_int) (pgd_sub (pd_var 0) pd_int))
  (pssd_one (psd_ret (pd_mod (pd_intI (by rfl) G.fr_int (pad_cons (pd_add (pd_fdiv (pd_ixW (pd_var 0) pd_int) pd_int) (pd_mul (pd_mod (pd_intI (by rfl) G.fr_int (pad_cons (pd_ixW (pd_var 0) pd_int) pad_nil)) pd_int) pd_int)) pad_nil)) (pd_var 1)))))))))
theorem bd__law_any {P : Program} {w : World} {K : PySem.W.Frag} {mg : Str → Option Value} {base : Heap} {k : Nat} (G : Gs P K mg) {k__law_draw : Nat} {c__law_draw : DSp} (l__law_draw : k__law_draw ≤ k) (h__law_draw : FnD P w K mg base "_law_draw" k__law_draw 2 c__law_draw) :
    BodyD P w K mg base "_law_any" s__law_any [("_law_bag" : Str), ("_law_things" : Str)] k (wb_law_any c__law_draw) :=
  fun f cdv A outer s H E n hr => (pssd_one (psd_ret (pd_ixW (pd_var 1) (pd_calN h__law_draw (hr.mono (by omega)) (by rfl) (pad_cons (pd_var 0) (pad_cons (pd_len (by rfl) G.fr_len (pd_var 1)) pad_nil))))))
theorem bd__law_like {P : Program} {w : World} {K : PySem.W.Frag} {mg : Str → Option Value} {base : Heap} {k : Nat} (G : Gs P K mg) {k__law_like : Nat} {c__law_like : DSp} (l__law_like : k__law_like ≤ k) (h__law_like : FnD P w K mg base "_law_like" k__law_like 2 c__law_like) :
    BodyD P w K mg base "_law_like" s__law_like [("_law_found" : Str), ("_law_due" : Str), ("_law_a" : Str), ("_law_b" : Str)] k (wb_law_like (ansW [((.own "Share", .own "Share"), true), ((.ty "bool", .own "Share"), false), ((.ty "NoneType", .own "Share"), false), ((.ty "str", .own "Share"), false), ((.ty "tuple", .own "Share"), false), ((.ty "list", .own "Share"), false), ((.ty "int", .own "Share"), false)]) c__law_like) :=
  fun f cdv A outer s H E n hr => (pssd_cons (psd_if (ptd_val (pd_isi G.ans (by rfl) G.fr_isinstance (pad_cons (pd_var 1) (pad_cons (pd_tup (pad_cons (pd_gTy (by rfl) G.fr_list (by decide +kernel)) (pad_cons (pd_gTy (by rfl) G.fr_tuple (by decide +kernel)) pad_nil))) pad_nil))))
  (pssd_cons (psd_if (PWD.pt (pwd_or (ptd_ne hr (pd_isi G.ans (by rfl) G.fr_isinstance (pad_cons (pd_var 0) (pad_cons (pd_gTy (by rfl) G.fr_list (by decide +kernel)) pad_nil))) (pd_isi G.ans (by rfl) G.fr_isinstance (pad_cons (pd_var 1) (pad_cons (pd_gTy (by rfl) G.fr_list (by decide +kernel)) pad_nil)))) (pwd_or1 (ptd_ne hr (pd_isi G.ans (by rfl) G.fr_isinstance (pad_cons (pd_var 0) (pad_cons (pd_gTy (by rfl) G.fr_tuple (by decide +kernel)) pad_nil))) (pd_isi G.ans (by rfl) G.fr_isinstance (pad_cons (pd_var 1) (pad_cons (pd_gTy (by rfl) G.fr_tuple (by decide +kernel)) pad_nil)))))))
  (pssd_one (psd_ret pd_bl))
  pssd_nil)
  (pssd_one (psd_ret (pd_and (pd_eq hr (pd_len (by rfl) G.fr_len (pd_var 0)) (pd_len (by rfl) G.fr_len (pd_var 1))) (pd_one (pd_all rfl (by rfl) G.fr_all (pad_cons (pd_lc [("_law_a", 2), ("_law_b", 3)] rfl sc__law_like.nd (pid_zip (by rfl) G.fr_zip (pad_cons (pd_var 0) (pad_cons (pd_var 1) pad_nil))) (by dsimp only [cxD, cxOf, Cx.blk, envOfC, compEnvC]; exact blkOk_by (by decide +kernel)) (fun _ _ _ _ _ => (pgw_tup rfl (pgsw_cons (pgw_name sc__law_like.nd) (pgsw_cons (pgw_name sc__law_like.nd) pgsw_nil)))) (fun _ _ _ _ _ => ptsd_nil) (fun _ _ _ _ _ => (pd_calN h__law_like (hr.mono (by omega)) (by rfl) (pad_cons (pd_var 2) (pad_cons (pd_var 3) pad_nil))))) pad_nil)))))))
  pssd_nil)
  (pssd_cons (psd_if (PWD.pt (pwd_or (ptd_isN (pd_var 1) pd_non) (pwd_or1 (ptd_isN (pd_var 0) pd_non))))
  (pssd_one (psd_ret (pd_and (pd_isN (pd_var 1) pd_non) (pd_one (pd_isN (pd_var 0) pd_non)))))
  pssd_nil)
  (pssd_cons (psd_if (PWD.pt (pwd_or (ptd_ne hr (pd_isi G.ans (by rfl) G.fr_isinstance (pad_cons (pd_var 1) (pad_cons (pd_gTy (by rfl) G.fr_bool (by decide +kernel)) pad_nil))) (pd_isi G.ans (by rfl) G.fr_isinstance (pad_cons (pd_var 0) (pad_cons (pd_gTy (by rfl) G.fr_bool (by decide +kernel)) pad_nil)))) (pwd_or1 (ptd_ne hr (pd_isi G.ans (by rfl) G.fr_isinstance (pad_cons (pd_var 1) (pad_cons (pd_gTy (by rfl) G.fr_int (by decide +kernel)) pad_nil))) (pd_isi G.ans (by rfl) G.fr_isinstance (pad_cons (pd_var 0) (pad_cons (pd_gTy (by rfl) G.fr_int (by decide +kernel)) pad_nil)))))))
  (pssd_one (psd_ret pd_bl))
  pssd_nil)
  (pssd_one (psd_ret (pd_and (pd_eq hr (pd_isi G.ans (by rfl) G.fr_isinstance (pad_cons (pd_var 1) (pad_cons (pd_gTy (by rfl) G.fr_str (by decide +kernel)) pad_nil))) (pd_isi G.ans (by rfl) G.fr_isinstance (pad_cons (pd_var 0) (pad_cons (pd_gTy (by rfl) G.fr_str (by decide +kernel)) pad_nil)))) (pd_one (pd_eq hr (pd_var 0) (pd_var 1)))))))))
def wb__law_field  : DS := (wSeq (wIfS (wTest (wOp (oIn false) (wXf xfT "code" (wVar 0)) (wTup (wCons (wC (.str [73, 110, 118, 97, 108, 105, 100, 66, 111, 97, 114, 100])) (wCons (wC (.str [73, 110, 118, 97, 108, 105, 100, 68, 101, 101, 100])) (wCons (wC (.str [73, 110, 118, 97, 108, 105, 100, 83, 116, 97, 116, 101])) (wCons (wC (.str [73, 110, 118, 97, 108, 105, 100, 67, 101, 108, 108, 115])) (wCons (wC (.str [73, 110, 118, 97, 108, 105, 100, 67, 111, 117, 110, 116])) (wCons (wC (.str [73, 110, 118, 97, 108, 105, 100, 76, 105, 109, 105, 116])) wNil))))))))) (wRet (wXf xfT "given" (wVar 0))) wNext)
  (wSeq (wIfS (wTest (wOp (oIn false) (wXf xfT "code" (wVar 0)) (wTup (wCons (wC (.str [73, 110, 118, 97, 108, 105, 100, 78, 97, 109, 101])) (wCons (wC (.str [68, 117, 112, 108, 105, 99, 97, 116, 101, 78, 97, 109, 101])) (wCons (wC (.str [85, 110, 107, 110, 111, 119, 110, 78, 97, 109, 101])) wNil)))))) (wRet (wXf xfT "name" (wVar 0))) wNext)
  (wSeq (wIfS (wTest (wOp (oIn false) (wXf xfT "code" (wVar 0)) (wTup (wCons (wC (.str [84, 111, 111, 76, 97, 114, 103, 101])) (wCons (wC (.str [84, 111, 111, 70, 97, 114])) wNil))))) (wRet (wXf xfT "most" (wVar 0))) wNext)
  (wSeq (wIfS (wTest (wOp (oIn false) (wXf xfT "code" (wVar 0)) (wTup (wCons (wC (.str [78, 101, 118, 101, 114, 69, 110, 100, 115])) (wCons (wC (.str [78, 101, 118, 101, 114, 87, 114, 105, 116, 116, 101, 110])) wNil))))) (wRet (wIf (wTest (wOp oEq (wXf xfT "code" (wVar 0)) (wC (.str [78, 101, 118, 101, 114, 69, 110, 100, 115])))) (wXf xfT "cells" (wVar 0)) (wXf xfT "cell" (wVar 0)))) wNext)
  (wSeq (wIfS (wTest (wOp (oIn false) (wXf xfT "code" (wVar 0)) (wTup (wCons (wC (.str [73, 110, 85, 115, 101])) (wCons (wC (.str [67, 97, 112, 97, 99, 105, 116, 121, 69, 120, 99, 101, 101, 100, 101, 100])) wNil))))) (wRet (wIf (wTest (wOp oEq (wXf xfT "code" (wVar 0)) (wC (.str [73, 110, 85, 115, 101])))) (wXf xfT "user" (wVar 0)) (wXf xfT "limit" (wVar 0)))) wNext)
  (wSeq (wIfS (wTest (wOp (oIn false) (wXf xfT "code" (wVar 0)) (wTup (wCons (wC (.str [73, 110, 118, 97, 108, 105, 100, 80, 114, 111, 103, 114, 97, 109])) (wCons (wC (.str [79, 112, 101, 110, 67, 111, 117, 110, 116, 115])) wNil))))) (wRet (wIf (wTest (wOp oEq (wXf xfT "code" (wVar 0)) (wC (.str [73, 110, 118, 97, 108, 105, 100, 80, 114, 111, 103, 114, 97, 109])))) (wXf xfT "path" (wVar 0)) (wXf xfT "letters" (wVar 0)))) wNext)
  (wRet (wIf (wTest (wOp oEq (wXf xfT "code" (wVar 0)) (wC (.str [73, 110, 118, 97, 108, 105, 100, 67, 111, 109, 109, 97, 110, 100])))) (wXf xfT "word" (wVar 0)) (wIf (wTest (wOp oEq (wXf xfT "code" (wVar 0)) (wC (.str [80, 97, 114, 115, 101, 69, 114, 114, 111, 114])))) (wXf xfT "line" (wVar 0)) (wC .non))))))))))
theorem bd__law_field {P : Program} {w : World} {K : PySem.W.Frag} {mg : Str → Option Value} {base : Heap} {k : Nat} (G : Gs P K mg)  :
    BodyH P w K mg base "_law_field" s__law_field [("_law_e" : Str)] k (wb__law_field ) :=
  fun f cdv A outer s H E n hr => (pssd_cons (psd_if (ptd_in (pd_xfld G.xf (pd_var 0)) (pd_tup (pad_cons (pd_str [73, 110, 118, 97, 108, 105, 100, 66, 111, 97, 114, 100]) (pad_cons (pd_str [73, 110, 118, 97, 108, 105, 100, 68, 101, 101, 100]) (pad_cons (pd_str [73, 110, 118, 97, 108, 105, 100, 83, 116, 97, 116, 101]) (pad_cons (pd_str [73, 110, 118, 97, 108, 105, 100, 67, 101, 108, 108, 115]) (pad_cons (pd_str [73, 110, 118, 97, 108, 105, 100, 67, 111, 117, 110, 116]) (pad_cons (pd_str [73, 110, 118, 97, 108, 105, 100, 76, 105, 109, 105, 116]) pad_nil))))))))
  (pssd_one (psd_ret (pd_xfld G.xf (pd_var 0))))
  pssd_nil)
  (pssd_cons (psd_if (ptd_in (pd_xfld G.xf (pd_var 0)) (pd_tup (pad_cons (pd_str [73, 110, 118, 97, 108, 105, 100, 78, 97, 109, 101]) (pad_cons (pd_str [68, 117, 112, 108, 105, 99, 97, 116, 101, 78, 97, 109, 101]) (pad_cons (pd_str [85, 110, 107, 110, 111, 119, 110, 78, 97, 109, 101]) pad_nil)))))
  (pssd_one (psd_ret (pd_xfld G.xf (pd_var 0))))
  pssd_nil)
  (pssd_cons (psd_if (ptd_in (pd_xfld G.xf (pd_var 0)) (pd_tup (pad_cons (pd_str [84, 111, 111, 76, 97, 114, 103, 101]) (pad_cons (pd_str [84, 111, 111, 70, 97, 114]) pad_nil))))
  (pssd_one (psd_ret (pd_xfld G.xf (pd_var 0))))
  pssd_nil)
  (pssd_cons (psd_if (ptd_in (pd_xfld G.xf (pd_var 0)) (pd_tup (pad_cons (pd_str [78, 101, 118, 101, 114, 69, 110, 100, 115]) (pad_cons (pd_str [78, 101, 118, 101, 114, 87, 114, 105, 116, 116, 101, 110]) pad_nil))))
  (pssd_one (psd_ret (pd_if (ptd_eqH hr (pd_xfld G.xf (pd_var 0)) (pd_str [78, 101, 118, 101, 114, 69, 110, 100, 115])) (pd_xfld G.xf (pd_var 0)) (pd_xfld G.xf (pd_var 0)))))
  pssd_nil)
  (pssd_cons (psd_if (ptd_in (pd_xfld G.xf (pd_var 0)) (pd_tup (pad_cons (pd_str [73, 110, 85, 115, 101]) (pad_cons (pd_str [67, 97, 112, 97, 99, 105, 116, 121, 69, 120, 99, 101, 101, 100, 101, 100]) pad_nil))))
  (pssd_one (psd_ret (pd_if (ptd_eqH hr (pd_xfld G.xf (pd_var 0)) (pd_str [73, 110, 85, 115, 101])) (pd_xfld G.xf (pd_var 0)) (pd_xfld G.xf (pd_var 0)))))
  pssd_nil)
  (pssd_cons (psd_if (ptd_in (pd_xfld G.xf (pd_var 0)) (pd_tup (pad_cons (pd_str [73, 110, 118, 97, 108, 105, 100, 80, 114, 111, 103, 114, 97, 109]) (pad_cons (pd_str [79, 112, 101, 110, 67, 111, 117, 110, 116, 115]) pad_nil))))
  (pssd_one (psd_ret (pd_if (ptd_eqH hr (pd_xfld G.xf (pd_var 0)) (pd_str [73, 110, 118, 97, 108, 105, 100, 80, 114, 111, 103, 114, 97, 109])) (pd_xfld G.xf (pd_var 0)) (pd_xfld G.xf (pd_var 0)))))
  pssd_nil)
  (pssd_one (psd_ret (pd_if (ptd_eqH hr (pd_xfld G.xf (pd_var 0)) (pd_str [73, 110, 118, 97, 108, 105, 100, 67, 111, 109, 109, 97, 110, 100])) (pd_xfld G.xf (pd_var 0)) (pd_if (ptd_eqH hr (pd_xfld G.xf (pd_var 0)) (pd_str [80, 97, 114, 115, 101, 69, 114, 114, 111, 114])) (pd_xfld G.xf (pd_var 0)) pd_non))))))))))
def wb__law_try (T : LamT) (c__law_field : DSp) (cl : List (Str × Addr)) (cs : List (Str × D)) : DS := (wTry excT 1 (wRet (wTup (wCons (wC (.str [118, 97, 108, 117, 101])) (wCons (wAct cl cs T (wVar 0)) wNil)))) (wRet (wTup (wCons (wXf xfT "code" (wVar 1)) (wCons (wCalN 1 c__law_field (wCons (wVar 1) wNil)) wNil)))))
theorem bd__law_try {P : Program} {w : World} {K : PySem.W.Frag} {mg : Str → Option Value} {base : Heap} {k : Nat} (G : Gs P K mg) {T : LamT} {hs : List Str} {kT : Nat} (lT : kT + 1 ≤ k) (hT : ∀ e ∈ T, LamD P w K mg base kT e.1 e.2.1 e.2.2) (hTs : ∀ e ∈ T, ∀ y ∈ e.1.scope.names, y.2 = .free → y.1 ∈ hs) {k__law_field : Nat} {c__law_field : DSp} (l__law_field : k__law_field ≤ k) (h__law_field : FnHD P w K mg base "_law_field" k__law_field 1 c__law_field) :
    BodyDL P w K mg base "_law_try" s__law_try [("_law_ask" : Str), ("_law_e" : Str)] hs k (wb__law_try T c__law_field) :=
  fun cl cs hh f cdv A outer s H E n en hr => (pssd_one (psd_try3 rfl rfl sc__law_try.nd rfl rfl (by rfl) G.g_ScrawlError (by rfl) G.g_Missing (by rfl) G.g_NothingLeft G.tb (fun n1 pn xe po => (fun en => (pssd_one (psd_ret (pd_tup (pad_cons (pd_str [118, 97, 108, 117, 101]) (pad_cons (pd_act en hT (fun e he y hy hf => hh _ (hTs e he y hy hf)) (hr.mono (by omega)) (pd_var 0)) pad_nil)))))) (en.post po))
  (fun n1 a pn => (pssd_one (psd_ret (pd_tup (pad_cons (pd_xfld G.xf (pd_var 1)) (pad_cons (pd_calH h__law_field (rmH_mark (hr.mono (by omega)) _) (by rfl) (pad_cons (pd_var 1) pad_nil)) pad_nil))))))))
def wb__law_errors (T : LamT) (c__law_try : CSp) (cl : List (Str × Addr)) (cs : List (Str × D)) : DS := (wRet (wLc (wIt (wVar 0)) (gN 1) wYes (wCalN 1 (c__law_try cl cs) (wCons (wVar 1) wNil)) [1]))
theorem bd__law_errors {P : Program} {w : World} {K : PySem.W.Frag} {mg : Str → Option Value} {base : Heap} {k : Nat} (G : Gs P K mg) {T : LamT} {hs : List Str} {kT : Nat} (lT : kT + 1 ≤ k) (hT : ∀ e ∈ T, LamD P w K mg base kT e.1 e.2.1 e.2.2) (hTs : ∀ e ∈ T, ∀ y ∈ e.1.scope.names, y.2 = .free → y.1 ∈ hs) {k__law_try : Nat} {c__law_try : CSp} (l__law_try : k__law_try ≤ k) (h__law_try : FnDL P w K mg base "_law_try" hs k__law_try 1 c__law_try) :
    BodyDL P w K mg base "_law_errors" s__law_errors [("_law_asks" : Str), ("_law_ask" : Str)] hs k (wb__law_errors T c__law_try) :=
  fun cl cs hh f cdv A outer s H E n en hr => (pssd_one (psd_ret (pd_lc [("_law_ask", 1)] rfl sc__law_errors.nd (pid_any (pd_var 0)) (by dsimp only [cxD, cxOf, Cx.blk, envOfC, compEnvC]; exact blkOk_by (by decide +kernel)) (fun _ _ _ _ _ => (pgw_name sc__law_errors.nd)) (fun _ _ _ _ _ => ptsd_nil) (fun _ _ _ _ _ => (pd_calL h__law_try en hh (hr.mono (by omega)) (by rfl) (pad_cons (pd_var 1) pad_nil))))))
def wb__law_ratio  : DS := (wSeq (wPar 2 3 (wCons (wCall oAbs (wCons (wVar 0) wNil)) (wCons (wCall oAbs (wCons (wVar 1) wNil)) wNil)))
  (wSeq (wWhile (wTest (wOp oNe (wVar 3) (wC (.int 0)))) (wPar 2 3 (wCons (wVar 3) (wCons (wOp oMod (wCall oIntS (wCons (wVar 2) wNil)) (wVar 3)) wNil))))
  (wRet (wIf (wTest (wOp oGt (wVar 1) (wC (.int 0)))) (wTup (wCons (wOp oFdiv (wVar 0) (wVar 2)) (wCons (wOp oFdiv (wVar 1) (wVar 2)) wNil))) (wTup (wCons (wOp oFdiv (wNeg (wVar 0)) (wVar 2)) (wCons (wOp oFdiv (wNeg (wVar 1)) (wVar 2)) wNil)))))))
theorem bd__law_ratio {P : Program} {w : World} {K : PySem.W.Frag} {mg : Str → Option Value} {base : Heap} {k : Nat} (G : Gs P K mg)  :
    BodyD P w K mg base "_law_ratio" s__law_ratio [("_law_top" : Str), ("_law_bottom" : Str), ("_law_left" : Str), ("_law_right" : Str)] k (wb__law_ratio ) :=
  fun f cdv A outer s H E n hr => (pssd_cons (psd_par (i := 2) (j := 3) rfl sc__law_ratio.nd (pad_cons (pd_abs (by rfl) G.fr_abs (pad_cons (pd_var 0) pad_nil)) (pad_cons (pd_abs (by rfl) G.fr_abs (pad_cons (pd_var 1) pad_nil)) pad_nil)))
  (pssd_cons (psd_while (passes_of rfl) (ptd_ne hr (pd_var 3) pd_int)
  (pssd_one (psd_par (i := 2) (j := 3) rfl sc__law_ratio.nd (pad_cons (pd_var 3) (pad_cons (pd_mod (pd_intS (by rfl) G.fr_int (pad_cons (pd_var 2) pad_nil)) (pd_var 3)) pad_nil)))))
  (pssd_one (psd_ret (pd_if (ptd_gt (pd_var 1) pd_int) (pd_tup (pad_cons (pd_fdiv (pd_var 0) (pd_var 2)) (pad_cons (pd_fdiv (pd_var 1) (pd_var 2)) pad_nil))) (pd_tup (pad_cons (pd_fdiv (pd_neg (pd_var 0)) (pd_var 2)) (pad_cons (pd_fdiv (pd_neg (pd_var 1)) (pd_var 2)) pad_nil))))))))
def wb__law_pair (c_Share_bottom : DSp) (c_Share_top : DSp) : DS := (wRet (wTup (wCons (wProp "Share" c_Share_top (wVar 0)) (wCons (wProp "Share" c_Share_bottom (wVar 0)) wNil))))
theorem bd__law_pair {P : Program} {w : World} {K : PySem.W.Frag} {mg : Str → Option Value} {base : Heap} {k : Nat} (G : Gs P K mg) {k_Share_bottom : Nat} {c_Share_bottom : DSp} (l_Share_bottom : k_Share_bottom + 1 ≤ k) (p_Share_bottom : PrD P w K mg base "Share" "bottom" k_Share_bottom c_Share_bottom) {k_Share_top : Nat} {c_Share_top : DSp} (l_Share_top : k_Share_top + 1 ≤ k) (p_Share_top : PrD P w K mg base "Share" "top" k_Share_top c_Share_top) :
    BodyD P w K mg base "_law_pair" s__law_pair [("_law_share_here" : Str)] k (wb__law_pair c_Share_bottom c_Share_top) :=
  fun f cdv A outer s H E n hr => (pssd_one (psd_ret (pd_tup (pad_cons (pd_prop p_Share_top (hr.mono (by omega)) (pd_var 0)) (pad_cons (pd_prop p_Share_bottom (hr.mono (by omega)) (pd_var 0)) pad_nil)))))
def wb__law_share (c_Share___init__ : DSp) : DS := (wRet (wMake "Share" c_Share___init__ 3 [] (wCons (wIx (wVar 0) (wC (.int 0))) (wCons (wIx (wVar 0) (wC (.int 1))) wNil))))
theorem bd__law_share {P : Program} {w : World} {K : PySem.W.Frag} {mg : Str → Option Value} {base : Heap} {k : Nat} (G : Gs P K mg) {k_Share___init__ : Nat} {c_Share___init__ : DSp} (l_Share___init__ : k_Share___init__ + 1 ≤ k) (i2_Share : MkD P w K mg base "Share" k_Share___init__ 3 [] c_Share___init__) :
    BodyD P w K mg base "_law_share" s__law_share [("_law_pair_here" : Str)] k (wb__law_share c_Share___init__) :=
  fun f cdv A outer s H E n hr => (pssd_one (psd_ret (pd_make i2_Share (hr.mono (by omega)) (by rfl) (pad_cons (pd_ixW (pd_var 0) pd_int) (pad_cons (pd_ixW (pd_var 0) pd_int) pad_nil)))))
def wb__law_some_pair (c__law_draw : DSp) (c__law_ratio : DSp) : DS := (wRet (wCalN 2 c__law_ratio (wCons (wOp oAdd (wVar 1) (wCalN 2 c__law_draw (wCons (wVar 0) (wCons (wOp oAdd (wOp oSub (wVar 2) (wVar 1)) (wC (.int 1))) wNil)))) (wCons (wOp oAdd (wC (.int 1)) (wCalN 2 c__law_draw (wCons (wVar 0) (wCons (wVar 3) wNil)))) wNil))))
theorem bd__law_some_pair {P : Program} {w : World} {K : PySem.W.Frag} {mg : Str → Option Value} {base : Heap} {k : Nat} (G : Gs P K mg) {k__law_draw : Nat} {c__law_draw : DSp} (l__law_draw : k__law_draw ≤ k) (h__law_draw : FnD P w K mg base "_law_draw" k__law_draw 2 c__law_draw) {k__law_ratio : Nat} {c__law_ratio : DSp} (l__law_ratio : k__law_ratio ≤ k) (h__law_ratio : FnD P w K mg base "_law_ratio" k__law_ratio 2 c__law_ratio) :
    BodyD P w K mg base "_law_some_pair" s__law_some_pair [("_law_bag" : Str), ("_law_low" : Str), ("_law_high" : Str), ("_law_bottoms" : Str)] k (wb__law_some_pair c__law_draw c__law_ratio) :=
  fun f cdv A outer s H E n hr => (pssd_one (psd_ret (pd_calN h__law_ratio (hr.mono (by omega)) (by rfl) (pad_cons (pd_add (pd_var 1) (pd_calN h__law_draw (hr.mono (by omega)) (by rfl) (pad_cons (pd_var 0) (pad_cons (pd_add (pd_sub (pd_var 2) (pd_var 1)) pd_int) pad_nil)))) (pad_cons (pd_add pd_int (pd_calN h__law_draw (hr.mono (by omega)) (by rfl) (pad_cons (pd_var 0) (pad_cons (pd_var 3) pad_nil)))) pad_nil)))))
def lamI : List (Str × Nat) := [("_law_odd", 5), ("_law_low", 6), ("_law_share_here", 4), ("_law_far", 7)]
def lamH : List Str := [("_law_odd" : Str), ("_law_low" : Str), ("_law_share_here" : Str), ("_law_far" : Str)]
theorem ixOk : ∀ q ∈ lamI, ([("_law_script" : Str), ("_law_bag" : Str), ("_law_turn" : Str), ("_law_pair_here" : Str), ("_law_share_here" : Str), ("_law_odd" : Str), ("_law_low" : Str), ("_law_far" : Str), ("_law_asks" : Str)])[q.2]? = some q.1 ∧ (defScope s_law).names.lookup q.1 = some .cell := by decide +kernel
def lam_0 : LamC := lamOf (lamQ ("law", none)) [0] s_law (nA 2 (nV (nBody 4 (nBody 1 (.s s_law)))))
def wlam_0 (c_Share___init__ : DSp) : DE := (wMake "Share" c_Share___init__ 3 [] (wCons (wVar 0) (wCons (wVar 1) wNil)))
theorem lamd_0 {P : Program} {w : World} {K : PySem.W.Frag} {mg : Str → Option Value} {base : Heap} {k : Nat} (G : Gs P K mg) {k_Share___init__ : Nat} {c_Share___init__ : DSp} (l_Share___init__ : k_Share___init__ + 1 ≤ k) (i2_Share : MkD P w K mg base "Share" k_Share___init__ 3 [] c_Share___init__) :
    LamD P w K mg base k lam_0 [("_law_odd" : Str), ("_law_low" : Str)] (wlam_0 c_Share___init__) :=
  ⟨by decide +kernel, by decide +kernel, by decide +kernel, by decide +kernel, by decide +kernel, fun s fd H hok e1 e2 e3 => bindL (l := lam_0) (pn := [("_law_b" : Str)]) (fun h => by cases h) (fun t us hl => match us, hl with | [_], _ => fun _ _ _ _ _ _ _ _ _ _ _ _ => ⟨_, rfl, rfl⟩) (by decide +kernel) s fd H hok e1 e2 e3, fun cl f c1 A outer s H E n hr => (pd_make i2_Share (hr.mono (by omega)) (by rfl) (pad_cons (pd_var 0) (pad_cons (pd_var 1) pad_nil)))⟩
def lam_1 : LamC := lamOf (lamQ ("law", none)) [0] s_law (nA 1 (nV (nBody 4 (nBody 1 (.s s_law)))))
def wlam_1 (c_Share___init__ : DSp) : DE := (wMake "Share" c_Share___init__ 3 [] (wCons (wC (.int 1)) (wCons (wVar 0) wNil)))
theorem lamd_1 {P : Program} {w : World} {K : PySem.W.Frag} {mg : Str → Option Value} {base : Heap} {k : Nat} (G : Gs P K mg) {k_Share___init__ : Nat} {c_Share___init__ : DSp} (l_Share___init__ : k_Share___init__ + 1 ≤ k) (i2_Share : MkD P w K mg base "Share" k_Share___init__ 3 [] c_Share___init__) :
    LamD P w K mg base k lam_1 [("_law_low" : Str)] (wlam_1 c_Share___init__) :=
  ⟨by decide +kernel, by decide +kernel, by decide +kernel, by decide +kernel, by decide +kernel, fun s fd H hok e1 e2 e3 => bindL (l := lam_1) (pn := [("_law_a" : Str)]) (fun h => by cases h) (fun t us hl => match us, hl with | [_], _ => fun _ _ _ _ _ _ _ _ _ _ _ _ => ⟨_, rfl, rfl⟩) (by decide +kernel) s fd H hok e1 e2 e3, fun cl f c1 A outer s H E n hr => (pd_make i2_Share (hr.mono (by omega)) (by rfl) (pad_cons pd_int (pad_cons (pd_var 0) pad_nil)))⟩
def lam_2 : LamC := lamOf (lamQ ("law", none)) [] s_law (nA 0 (nV (nBody 4 (nBody 1 (.s s_law)))))
def wlam_2 (c_Share___init__ : DSp) : DE := (wMake "Share" c_Share___init__ 3 [D.int 1] (wCons (wVar 0) wNil))
theorem lamd_2 {P : Program} {w : World} {K : PySem.W.Frag} {mg : Str → Option Value} {base : Heap} {k : Nat} (G : Gs P K mg) {k_Share___init__ : Nat} {c_Share___init__ : DSp} (l_Share___init__ : k_Share___init__ + 1 ≤ k) (i1_Share : MkD P w K mg base "Share" k_Share___init__ 3 [D.int 1] c_Share___init__) :
    LamD P w K mg base k lam_2 [("_law_odd" : Str)] (wlam_2 c_Share___init__) :=
  ⟨by decide +kernel, by decide +kernel, by decide +kernel, by decide +kernel, by decide +kernel, fun s fd H hok e1 e2 e3 => bindL (l := lam_2) (pn := []) (fun _ _ _ _ _ _ _ _ _ _ _ _ _ => rfl) (fun t us hl => match us, hl with | [], _ => fun _ _ _ _ _ _ _ _ _ _ _ _ => ⟨_, rfl, rfl⟩) (by decide +kernel) s fd H hok e1 e2 e3, fun cl f c1 A outer s H E n hr => (pd_make i1_Share (hr.mono (by omega)) (by rfl) (pad_cons (pd_var 0) pad_nil))⟩
def lam_3 : LamC := lamOf (lamQ ("law", none)) [0] s_law (nA 2 (nR (nV (nBody 5 (nBody 1 (.s s_law))))))
def wlam_3 (c_Share___mul__ : DSp) : DE := (wOwnT "Share" ["bool", "NoneType", "str", "tuple", "list", "int"] c_Share___mul__ (wVar 0) (wVar 1))
theorem lamd_3 {P : Program} {w : World} {K : PySem.W.Frag} {mg : Str → Option Value} {base : Heap} {k : Nat} (G : Gs P K mg) {k_Share___mul__ : Nat} {c_Share___mul__ : DSp} (l_Share___mul__ : k_Share___mul__ ≤ k) (o_Share___mul__ : OpD P w K mg base "Share" Operator.Mult k_Share___mul__ c_Share___mul__) :
    LamD P w K mg base k lam_3 [("_law_share_here" : Str), ("_law_odd" : Str)] (wlam_3 c_Share___mul__) :=
  ⟨by decide +kernel, by decide +kernel, by decide +kernel, by decide +kernel, by decide +kernel, fun s fd H hok e1 e2 e3 => bindL (l := lam_3) (pn := [("_law_b" : Str)]) (fun h => by cases h) (fun t us hl => match us, hl with | [_], _ => fun _ _ _ _ _ _ _ _ _ _ _ _ => ⟨_, rfl, rfl⟩) (by decide +kernel) s fd H hok e1 e2 e3, fun cl f c1 A outer s H E n hr => (pd_ownT o_Share___mul__ G.ot_Share___mul__ (hr.mono (by omega)) (pd_var 0) (pd_var 1))⟩
def lam_4 : LamC := lamOf (lamQ ("law", none)) [0] s_law (nA 1 (nR (nV (nBody 5 (nBody 1 (.s s_law))))))
def wlam_4 (c_Share___sub__ : DSp) : DE := (wOwnT "Share" ["bool", "NoneType", "str", "tuple", "list", "int"] c_Share___sub__ (wVar 0) (wVar 1))
theorem lamd_4 {P : Program} {w : World} {K : PySem.W.Frag} {mg : Str → Option Value} {base : Heap} {k : Nat} (G : Gs P K mg) {k_Share___sub__ : Nat} {c_Share___sub__ : DSp} (l_Share___sub__ : k_Share___sub__ ≤ k) (o_Share___sub__ : OpD P w K mg base "Share" Operator.Sub k_Share___sub__ c_Share___sub__) :
    LamD P w K mg base k lam_4 [("_law_share_here" : Str), ("_law_odd" : Str)] (wlam_4 c_Share___sub__) :=
  ⟨by decide +kernel, by decide +kernel, by decide +kernel, by decide +kernel, by decide +kernel, fun s fd H hok e1 e2 e3 => bindL (l := lam_4) (pn := [("_law_a" : Str)]) (fun h => by cases h) (fun t us hl => match us, hl with | [_], _ => fun _ _ _ _ _ _ _ _ _ _ _ _ => ⟨_, rfl, rfl⟩) (by decide +kernel) s fd H hok e1 e2 e3, fun cl f c1 A outer s H E n hr => (pd_ownT o_Share___sub__ G.ot_Share___sub__ (hr.mono (by omega)) (pd_var 0) (pd_var 1))⟩
def lam_5 : LamC := lamOf (lamQ ("law", none)) [] s_law (nA 0 (nR (nV (nBody 5 (nBody 1 (.s s_law))))))
def wlam_5 (c_Share___add__ : DSp) : DE := (wOwnT "Share" ["bool", "NoneType", "str", "tuple", "list", "int"] c_Share___add__ (wVar 0) (wVar 1))
theorem lamd_5 {P : Program} {w : World} {K : PySem.W.Frag} {mg : Str → Option Value} {base : Heap} {k : Nat} (G : Gs P K mg) {k_Share___add__ : Nat} {c_Share___add__ : DSp} (l_Share___add__ : k_Share___add__ ≤ k) (o_Share___add__ : OpD P w K mg base "Share" Operator.Add k_Share___add__ c_Share___add__) :
    LamD P w K mg base k lam_5 [("_law_share_here" : Str), ("_law_odd" : Str)] (wlam_5 c_Share___add__) :=
  ⟨by decide +kernel, by decide +kernel, by decide +kernel, by decide +kernel, by decide +kernel, fun s fd H hok e1 e2 e3 => bindL (l := lam_5) (pn := []) (fun _ _ _ _ _ _ _ _ _ _ _ _ _ => rfl) (fun t us hl => match us, hl with | [], _ => fun _ _ _ _ _ _ _ _ _ _ _ _ => ⟨_, rfl, rfl⟩) (by decide +kernel) s fd H hok e1 e2 e3, fun cl f c1 A outer s H E n hr => (pd_ownT o_Share___add__ G.ot_Share___add__ (hr.mono (by omega)) (pd_var 0) (pd_var 1))⟩
def lam_6 : LamC := lamOf (lamQ ("law", none)) [0] s_law (nA 2 (nR (nV (nBody 6 (nBody 1 (.s s_law))))))
def wlam_6 (c_Share_is_below : DSp) : DE := (wMeth "Share" "is_below" 2 c_Share_is_below (wVar 1) (wCons (wVar 0) wNil))
theorem lamd_6 {P : Program} {w : World} {K : PySem.W.Frag} {mg : Str → Option Value} {base : Heap} {k : Nat} (G : Gs P K mg) {k_Share_is_below : Nat} {c_Share_is_below : DSp} (l_Share_is_below : k_Share_is_below ≤ k) (m_Share_is_below : MtD P w K mg base "Share" "is_below" k_Share_is_below 2 c_Share_is_below) :
    LamD P w K mg base k lam_6 [("_law_odd" : Str), ("_law_share_here" : Str)] (wlam_6 c_Share_is_below) :=
  ⟨by decide +kernel, by decide +kernel, by decide +kernel, by decide +kernel, by decide +kernel, fun s fd H hok e1 e2 e3 => bindL (l := lam_6) (pn := [("_law_b" : Str)]) (fun h => by cases h) (fun t us hl => match us, hl with | [_], _ => fun _ _ _ _ _ _ _ _ _ _ _ _ => ⟨_, rfl, rfl⟩) (by decide +kernel) s fd H hok e1 e2 e3, fun cl f c1 A outer s H E n hr => (pd_meth m_Share_is_below (hr.mono (by omega)) (pd_var 1) (pad_cons (pd_var 0) pad_nil))⟩
def lam_7 : LamC := lamOf (lamQ ("law", none)) [0] s_law (nA 1 (nR (nV (nBody 6 (nBody 1 (.s s_law))))))
def wlam_7 (c_Share_divided_by : DSp) : DE := (wMeth "Share" "divided_by" 2 c_Share_divided_by (wVar 0) (wCons (wC (.int 0)) wNil))
theorem lamd_7 {P : Program} {w : World} {K : PySem.W.Frag} {mg : Str → Option Value} {base : Heap} {k : Nat} (G : Gs P K mg) {k_Share_divided_by : Nat} {c_Share_divided_by : DSp} (l_Share_divided_by : k_Share_divided_by ≤ k) (m_Share_divided_by : MtD P w K mg base "Share" "divided_by" k_Share_divided_by 2 c_Share_divided_by) :
    LamD P w K mg base k lam_7 [("_law_share_here" : Str)] (wlam_7 c_Share_divided_by) :=
  ⟨by decide +kernel, by decide +kernel, by decide +kernel, by decide +kernel, by decide +kernel, fun s fd H hok e1 e2 e3 => bindL (l := lam_7) (pn := [("_law_a" : Str)]) (fun h => by cases h) (fun t us hl => match us, hl with | [_], _ => fun _ _ _ _ _ _ _ _ _ _ _ _ => ⟨_, rfl, rfl⟩) (by decide +kernel) s fd H hok e1 e2 e3, fun cl f c1 A outer s H E n hr => (pd_meth m_Share_divided_by (hr.mono (by omega)) (pd_var 0) (pad_cons pd_int pad_nil))⟩
def lam_8 : LamC := lamOf (lamQ ("law", none)) [] s_law (nA 0 (nR (nV (nBody 6 (nBody 1 (.s s_law))))))
def wlam_8 (c_Share_divided_by : DSp) : DE := (wMeth "Share" "divided_by" 2 c_Share_divided_by (wVar 1) (wCons (wVar 0) wNil))
theorem lamd_8 {P : Program} {w : World} {K : PySem.W.Frag} {mg : Str → Option Value} {base : Heap} {k : Nat} (G : Gs P K mg) {k_Share_divided_by : Nat} {c_Share_divided_by : DSp} (l_Share_divided_by : k_Share_divided_by ≤ k) (m_Share_divided_by : MtD P w K mg base "Share" "divided_by" k_Share_divided_by 2 c_Share_divided_by) :
    LamD P w K mg base k lam_8 [("_law_odd" : Str), ("_law_share_here" : Str)] (wlam_8 c_Share_divided_by) :=
  ⟨by decide +kernel, by decide +kernel, by decide +kernel, by decide +kernel, by decide +kernel, fun s fd H hok e1 e2 e3 => bindL (l := lam_8) (pn := []) (fun _ _ _ _ _ _ _ _ _ _ _ _ _ => rfl) (fun t us hl => match us, hl with | [], _ => fun _ _ _ _ _ _ _ _ _ _ _ _ => ⟨_, rfl, rfl⟩) (by decide +kernel) s fd H hok e1 e2 e3, fun cl f c1 A outer s H E n hr => (pd_meth m_Share_divided_by (hr.mono (by omega)) (pd_var 1) (pad_cons (pd_var 0) pad_nil))⟩
def lam_9 : LamC := lamOf (lamQ ("law", none)) [0] s_law (nA 1 (nR (nV (nBody 7 (nBody 1 (.s s_law))))))
def wlam_9 (c_Share_power : DSp) : DE := (wMeth "Share" "power" 2 c_Share_power (wVar 1) (wCons (wVar 0) wNil))
theorem lamd_9 {P : Program} {w : World} {K : PySem.W.Frag} {mg : Str → Option Value} {base : Heap} {k : Nat} (G : Gs P K mg) {k_Share_power : Nat} {c_Share_power : DSp} (l_Share_power : k_Share_power ≤ k) (m_Share_power : MtD P w K mg base "Share" "power" k_Share_power 2 c_Share_power) :
    LamD P w K mg base k lam_9 [("_law_far" : Str), ("_law_share_here" : Str)] (wlam_9 c_Share_power) :=
  ⟨by decide +kernel, by decide +kernel, by decide +kernel, by decide +kernel, by decide +kernel, fun s fd H hok e1 e2 e3 => bindL (l := lam_9) (pn := [("_law_a" : Str)]) (fun h => by cases h) (fun t us hl => match us, hl with | [_], _ => fun _ _ _ _ _ _ _ _ _ _ _ _ => ⟨_, rfl, rfl⟩) (by decide +kernel) s fd H hok e1 e2 e3, fun cl f c1 A outer s H E n hr => (pd_meth m_Share_power (hr.mono (by omega)) (pd_var 1) (pad_cons (pd_var 0) pad_nil))⟩
def lam_10 : LamC := lamOf (lamQ ("law", none)) [] s_law (nA 0 (nR (nV (nBody 7 (nBody 1 (.s s_law))))))
def wlam_10 (c_Share___init__ : DSp) (c_Share_divided_by : DSp) : DE := (wMeth "Share" "divided_by" 2 c_Share_divided_by (wVar 0) (wCons (wMake "Share" c_Share___init__ 3 [] (wCons (wC (.int 0)) (wCons (wC (.int 5)) wNil))) wNil))
theorem lamd_10 {P : Program} {w : World} {K : PySem.W.Frag} {mg : Str → Option Value} {base : Heap} {k : Nat} (G : Gs P K mg) {k_Share___init__ : Nat} {c_Share___init__ : DSp} (l_Share___init__ : k_Share___init__ + 1 ≤ k) (i2_Share : MkD P w K mg base "Share" k_Share___init__ 3 [] c_Share___init__) {k_Share_divided_by : Nat} {c_Share_divided_by : DSp} (l_Share_divided_by : k_Share_divided_by ≤ k) (m_Share_divided_by : MtD P w K mg base "Share" "divided_by" k_Share_divided_by 2 c_Share_divided_by) :
    LamD P w K mg base k lam_10 [("_law_share_here" : Str)] (wlam_10 c_Share___init__ c_Share_divided_by) :=
  ⟨by decide +kernel, by decide +kernel, by decide +kernel, by decide +kernel, by decide +kernel, fun s fd H hok e1 e2 e3 => bindL (l := lam_10) (pn := []) (fun _ _ _ _ _ _ _ _ _ _ _ _ _ => rfl) (fun t us hl => match us, hl with | [], _ => fun _ _ _ _ _ _ _ _ _ _ _ _ => ⟨_, rfl, rfl⟩) (by decide +kernel) s fd H hok e1 e2 e3, fun cl f c1 A outer s H E n hr => (pd_meth m_Share_divided_by (hr.mono (by omega)) (pd_var 0) (pad_cons (pd_make i2_Share (hr.mono (by omega)) (by rfl) (pad_cons pd_int (pad_cons pd_int pad_nil))) pad_nil))⟩
def lamT (c_Share___add__ : DSp) (c_Share___init__ : DSp) (c_Share___mul__ : DSp) (c_Share___sub__ : DSp) (c_Share_divided_by : DSp) (c_Share_is_below : DSp) (c_Share_power : DSp) : LamT := [(lam_0, [("_law_odd" : Str), ("_law_low" : Str)], wlam_0 c_Share___init__), (lam_1, [("_law_low" : Str)], wlam_1 c_Share___init__), (lam_2, [("_law_odd" : Str)], wlam_2 c_Share___init__), (lam_3, [("_law_share_here" : Str), ("_law_odd" : Str)], wlam_3 c_Share___mul__), (lam_4, [("_law_share_here" : Str), ("_law_odd" : Str)], wlam_4 c_Share___sub__), (lam_5, [("_law_share_here" : Str), ("_law_odd" : Str)], wlam_5 c_Share___add__), (lam_6, [("_law_odd" : Str), ("_law_share_here" : Str)], wlam_6 c_Share_is_below), (lam_7, [("_law_share_here" : Str)], wlam_7 c_Share_divided_by), (lam_8, [("_law_odd" : Str), ("_law_share_here" : Str)], wlam_8 c_Share_divided_by), (lam_9, [("_law_far" : Str), ("_law_share_here" : Str)], wlam_9 c_Share_power), (lam_10, [("_law_share_here" : Str)], wlam_10 c_Share___init__ c_Share_divided_by)]
def wl1 (c_Share___init__ : DSp) (c_Share_power : DSp) (c__law_any : DSp) (c__law_cells : DSp) (c__law_errors : CSp) (c__law_like : DSp) (c__law_pair : DSp) (c__law_share : DSp) (c__law_some_pair : DSp) (cl : List (Str × Addr)) : DS := (wAsg (wCalN 4 c__law_some_pair (wCons (wVar 1) (wCons (wNeg (wC (.int 9))) (wCons (wC (.int 9)) (wCons (wC (.int 9)) wNil))))) (gN 3))
def wl2 (c_Share___init__ : DSp) (c_Share_power : DSp) (c__law_any : DSp) (c__law_cells : DSp) (c__law_errors : CSp) (c__law_like : DSp) (c__law_pair : DSp) (c__law_share : DSp) (c__law_some_pair : DSp) (cl : List (Str × Addr)) : DS := (wAsg (wTup (wCons (wCalN 1 c__law_share (wCons (wVar 3) wNil)) (wCons (wCalN 2 c__law_any (wCons (wVar 1) (wCons (wLst (wCons (wC (.bl true)) (wCons (wC (.bl false)) (wCons (wC .non) (wCons (wC (.str [49])) (wCons (wTup (wCons (wC (.int 1)) (wCons (wC (.int 2)) wNil))) (wCons (wLst (wCons (wC (.int 1)) wNil)) wNil))))))) wNil))) wNil))) (gT 2 (gsCons (gN 4) (gsCons (gN 5) gsNil))))
def wl3 (c_Share___init__ : DSp) (c_Share_power : DSp) (c__law_any : DSp) (c__law_cells : DSp) (c__law_errors : CSp) (c__law_like : DSp) (c__law_pair : DSp) (c__law_share : DSp) (c__law_some_pair : DSp) (cl : List (Str × Addr)) : DS := (wAsg (wCalN 2 c__law_any (wCons (wVar 1) (wCons (wLst (wCons (wC (.int 0)) (wCons (wNeg (wC (.int 1))) (wCons (wNeg (wC (.int 7))) (wCons (wC (.bl true)) (wCons (wC .non) (wCons (wC (.str [50])) wNil))))))) wNil))) (gN 6))
def wl4 (c_Share___init__ : DSp) (c_Share_power : DSp) (c__law_any : DSp) (c__law_cells : DSp) (c__law_errors : CSp) (c__law_like : DSp) (c__law_pair : DSp) (c__law_share : DSp) (c__law_some_pair : DSp) (cl : List (Str × Addr)) : DS := (wAsg (wCalN 2 c__law_any (wCons (wVar 1) (wCons (wLst (wCons (wNeg (wC (.int 1))) (wCons (wC (.int 1001)) (wCons (wC (.bl true)) (wCons (wC .non) (wCons (wC (.str [51])) (wCons (wOp oPow (wC (.int 10)) (wC (.int 9))) wNil))))))) wNil))) (gN 7))
def wl5 (c_Share___init__ : DSp) (c_Share_power : DSp) (c__law_any : DSp) (c__law_cells : DSp) (c__law_errors : CSp) (c__law_like : DSp) (c__law_pair : DSp) (c__law_share : DSp) (c__law_some_pair : DSp) (cl : List (Str × Addr)) : DS := (wAsg (wLst (wCons (wLam lam_2 cl) (wCons (wLam lam_1 cl) (wCons (wLam lam_0 cl) wNil)))) (gN 8))
def wl6 (c_Share___init__ : DSp) (c_Share_power : DSp) (c__law_any : DSp) (c__law_cells : DSp) (c__law_errors : CSp) (c__law_like : DSp) (c__law_pair : DSp) (c__law_share : DSp) (c__law_some_pair : DSp) (cl : List (Str × Addr)) : DS := (wAsg (wOp oAdd (wVar 8) (wLst (wCons (wLam lam_5 cl) (wCons (wLam lam_4 cl) (wCons (wLam lam_3 cl) wNil))))) (gN 8))
def wl7 (c_Share___init__ : DSp) (c_Share_power : DSp) (c__law_any : DSp) (c__law_cells : DSp) (c__law_errors : CSp) (c__law_like : DSp) (c__law_pair : DSp) (c__law_share : DSp) (c__law_some_pair : DSp) (cl : List (Str × Addr)) : DS := (wAsg (wOp oAdd (wVar 8) (wLst (wCons (wLam lam_8 cl) (wCons (wLam lam_7 cl) (wCons (wLam lam_6 cl) wNil))))) (gN 8))
def wl8 (c_Share___init__ : DSp) (c_Share_power : DSp) (c__law_any : DSp) (c__law_cells : DSp) (c__law_errors : CSp) (c__law_like : DSp) (c__law_pair : DSp) (c__law_share : DSp) (c__law_some_pair : DSp) (cl : List (Str × Addr)) : DS := (wAsg (wOp oAdd (wVar 8) (wLst (wCons (wLam lam_10 cl) (wCons (wLam lam_9 cl) wNil)))) (gN 8))
def wl9 (c_Share___init__ : DSp) (c_Share_power : DSp) (c__law_any : DSp) (c__law_cells : DSp) (c__law_errors : CSp) (c__law_like : DSp) (c__law_pair : DSp) (c__law_share : DSp) (c__law_some_pair : DSp) (cl : List (Str × Addr)) : DS := (wIfS (wNotT (wTest (wCalN 2 c__law_like (wCons (wCalG 1 lamI cl c__law_errors (wCons (wVar 8) wNil)) (wCons (wOp oAdd (wOp oMulA (wLst (wCons (wTup (wCons (wC (.str [73, 110, 118, 97, 108, 105, 100, 83, 104, 97, 114, 101])) (wCons (wC .non) wNil))) wNil)) (wC (.int 10))) (wLst (wCons (wTup (wCons (wC (.str [73, 110, 118, 97, 108, 105, 100, 67, 111, 117, 110, 116])) (wCons (wVar 7) wNil))) wNil))) wNil))))) (wRet (wC (.bl false))) wNext)
def wl10 (c_Share___init__ : DSp) (c_Share_power : DSp) (c__law_any : DSp) (c__law_cells : DSp) (c__law_errors : CSp) (c__law_like : DSp) (c__law_pair : DSp) (c__law_share : DSp) (c__law_some_pair : DSp) (cl : List (Str × Addr)) : DS := (wIfS (wNotT (wTest (wCalN 2 c__law_like (wCons (wCalN 1 c__law_pair (wCons (wVar 4) wNil)) (wCons (wVar 3) wNil))))) (wRet (wC (.bl false))) wNext)
def wb_law (c_Share___init__ : DSp) (c_Share_power : DSp) (c__law_any : DSp) (c__law_cells : DSp) (c__law_errors : CSp) (c__law_like : DSp) (c__law_pair : DSp) (c__law_share : DSp) (c__law_some_pair : DSp) (cl : List (Str × Addr)) : DS := (wSeq (wAsg (wCalN 1 c__law_cells (wCons (wVar 0) wNil)) (gN 1))
  (wSeq (wFor (wRng1 (wCons (wC (.int 8)) wNil)) (gN 2) (wSeq (wl1 c_Share___init__ c_Share_power c__law_any c__law_cells c__law_errors c__law_like c__law_pair c__law_share c__law_some_pair cl)
  (wSeq (wl2 c_Share___init__ c_Share_power c__law_any c__law_cells c__law_errors c__law_like c__law_pair c__law_share c__law_some_pair cl)
  (wSeq (wl3 c_Share___init__ c_Share_power c__law_any c__law_cells c__law_errors c__law_like c__law_pair c__law_share c__law_some_pair cl)
  (wSeq (wl4 c_Share___init__ c_Share_power c__law_any c__law_cells c__law_errors c__law_like c__law_pair c__law_share c__law_some_pair cl)
  (wSeq (wl5 c_Share___init__ c_Share_power c__law_any c__law_cells c__law_errors c__law_like c__law_pair c__law_share c__law_some_pair cl)
  (wSeq (wl6 c_Share___init__ c_Share_power c__law_any c__law_cells c__law_errors c__law_like c__law_pair c__law_share c__law_some_pair cl)
  (wSeq (wl7 c_Share___init__ c_Share_power c__law_any c__law_cells c__law_errors c__law_like c__law_pair c__law_share c__law_some_pair cl)
  (wSeq (wl8 c_Share___init__ c_Share_power c__law_any c__law_cells c__law_errors c__law_like c__law_pair c__law_share c__law_some_pair cl)
  (wSeq (wl9 c_Share___init__ c_Share_power c__law_any c__law_cells c__law_errors c__law_like c__law_pair c__law_share c__law_some_pair cl)
  (wl10 c_Share___init__ c_Share_power c__law_any c__law_cells c__law_errors c__law_like c__law_pair c__law_share c__law_some_pair cl)))))))))))
  (wRet (wCalN 2 c__law_like (wCons (wLst (wCons (wCalN 1 c__law_pair (wCons (wMeth "Share" "power" 2 c_Share_power (wMake "Share" c_Share___init__ 3 [D.int 1] (wCons (wNeg (wC (.int 1))) wNil)) (wCons (wC (.int 1000)) wNil)) wNil)) (wCons (wCalN 1 c__law_pair (wCons (wMeth "Share" "power" 2 c_Share_power (wMake "Share" c_Share___init__ 3 [D.int 1] (wCons (wC (.int 0)) wNil)) (wCons (wC (.int 1000)) wNil)) wNil)) wNil))) (wCons (wLst (wCons (wTup (wCons (wC (.int 1)) (wCons (wC (.int 1)) wNil))) (wCons (wTup (wCons (wC (.int 0)) (wCons (wC (.int 1)) wNil))) wNil))) wNil))))))
theorem bd_law {P : Program} {w : World} {K : PySem.W.Frag} {mg : Str → Option Value} {base : Heap} {k : Nat} (G : Gs P K mg) (TB : LamX.TabB base mg (He.cT K ("law", none)).1 (He.cT K ("law", none)).2) {k_Share___init__ : Nat} {c_Share___init__ : DSp} (l_Share___init__ : k_Share___init__ + 1 ≤ k) (i1_Share : MkD P w K mg base "Share" k_Share___init__ 3 [D.int 1] c_Share___init__) {k_Share_power : Nat} {c_Share_power : DSp} (l_Share_power : k_Share_power ≤ k) (m_Share_power : MtD P w K mg base "Share" "power" k_Share_power 2 c_Share_power) {k__law_any : Nat} {c__law_any : DSp} (l__law_any : k__law_any ≤ k) (h__law_any : FnD P w K mg base "_law_any" k__law_any 2 c__law_any) {k__law_cells : Nat} {c__law_cells : DSp} (l__law_cells : k__law_cells ≤ k) (h__law_cells : FnD P w K mg base "_law_cells" k__law_cells 1 c__law_cells) {k__law_errors : Nat} {c__law_errors : CSp} (l__law_errors : k__law_errors ≤ k) (h__law_errors : FnDL P w K mg base "_law_errors" lamH k__law_errors 1 c__law_errors) {k__law_like : Nat} {c__law_like : DSp} (l__law_like : k__law_like ≤ k) (h__law_like : FnD P w K mg base "_law_like" k__law_like 2 c__law_like) {k__law_pair : Nat} {c__law_pair : DSp} (l__law_pair : k__law_pair ≤ k) (h__law_pair : FnD P w K mg base "_law_pair" k__law_pair 1 c__law_pair) {k__law_share : Nat} {c__law_share : DSp} (l__law_share : k__law_share ≤ k) (h__law_share : FnD P w K mg base "_law_share" k__law_share 1 c__law_share) {k__law_some_pair : Nat} {c__law_some_pair : DSp} (l__law_some_pair : k__law_some_pair ≤ k) (h__law_some_pair : FnD P w K mg base "_law_some_pair" k__law_some_pair 4 c__law_some_pair) :
    BodyL P w K mg base "law" s_law [("_law_script" : Str), ("_law_bag" : Str), ("_law_turn" : Str), ("_law_pair_here" : Str), ("_law_share_here" : Str), ("_law_odd" : Str), ("_law_low" : Str), ("_law_far" : Str), ("_law_asks" : Str)] k (wb_law c_Share___init__ c_Share_power c__law_any c__law_cells c__law_errors c__law_like c__law_pair c__law_share c__law_some_pair) :=
  fun f cdv A outer s H E n hcv hr => by
  have M : LamM (cxD P w K mg base [("_law_script" : Str), ("_law_bag" : Str), ("_law_turn" : Str), ("_law_pair_here" : Str), ("_law_share_here" : Str), ("_law_odd" : Str), ("_law_low" : Str), ("_law_far" : Str), ("_law_asks" : Str)] "law" (defScope s_law) f cdv A outer s H E) ("law", none) := ⟨.head _, G.hdl, TB, hcv, qual_law, G.uni⟩
  exact (pssd_cons (psd_set (i := 1) sc_law.nd (pd_calN h__law_cells (hr.mono (by omega)) (by rfl) (pad_cons (pd_var 0) pad_nil)))
  (pssd_cons (psd_for (passes_of rfl) rfl (pid_range1 (by rfl) G.fr_range (pad_cons pd_int pad_nil)) (pgd_name sc_law.nd)
  (pssd_cons (psd_set (i := 3) sc_law.nd (pd_calN h__law_some_pair (hr.mono (by omega)) (by rfl) (pad_cons (pd_var 1) (pad_cons (pd_neg pd_int) (pad_cons pd_int (pad_cons pd_int pad_nil))))))
  (pssd_cons (psd_asg (pd_tup (pad_cons (pd_calN h__law_share (hr.mono (by omega)) (by rfl) (pad_cons (pd_var 3) pad_nil)) (pad_cons (pd_calN h__law_any (hr.mono (by omega)) (by rfl) (pad_cons (pd_var 1) (pad_cons (pd_lst (pad_cons pd_bl (pad_cons pd_bl (pad_cons pd_non (pad_cons (pd_str [49]) (pad_cons (pd_tup (pad_cons pd_int (pad_cons pd_int pad_nil))) (pad_cons (pd_lst (pad_cons pd_int pad_nil)) pad_nil))))))) pad_nil))) pad_nil))) (pgd_tup rfl (pgsd_cons (pgd_name sc_law.nd) (pgsd_cons (pgd_name sc_law.nd) pgsd_nil))))
  (pssd_cons (psd_set (i := 6) sc_law.nd (pd_calN h__law_any (hr.mono (by omega)) (by rfl) (pad_cons (pd_var 1) (pad_cons (pd_lst (pad_cons pd_int (pad_cons (pd_neg pd_int) (pad_cons (pd_neg pd_int) (pad_cons pd_bl (pad_cons pd_non (pad_cons (pd_str [50]) pad_nil))))))) pad_nil))))
  (pssd_cons (psd_set (i := 7) sc_law.nd (pd_calN h__law_any (hr.mono (by omega)) (by rfl) (pad_cons (pd_var 1) (pad_cons (pd_lst (pad_cons (pd_neg pd_int) (pad_cons pd_int (pad_cons pd_bl (pad_cons pd_non (pad_cons (pd_str [51]) (pad_cons (pd_pow pd_int pd_int) pad_nil))))))) pad_nil))))
  (pssd_cons (psd_set (i := 8) sc_law.nd (pd_lst (pad_cons (pd_lamF M (by rfl) (free_cells (sc2 := lam_2.scope) (by decide +kernel))) (pad_cons (pd_lamD M (by rfl) (by rfl) (free_cells (sc2 := lam_1.scope) (by decide +kernel))) (pad_cons (pd_lamD M (by rfl) (by rfl) (free_cells (sc2 := lam_0.scope) (by decide +kernel))) pad_nil)))))
  (pssd_cons (psd_set (i := 8) sc_law.nd (pd_add (pd_var 8) (pd_lst (pad_cons (pd_lamF M (by rfl) (free_cells (sc2 := lam_5.scope) (by decide +kernel))) (pad_cons (pd_lamD M (by rfl) (by rfl) (free_cells (sc2 := lam_4.scope) (by decide +kernel))) (pad_cons (pd_lamD M (by rfl) (by rfl) (free_cells (sc2 := lam_3.scope) (by decide +kernel))) pad_nil))))))
  (pssd_cons (psd_set (i := 8) sc_law.nd (pd_add (pd_var 8) (pd_lst (pad_cons (pd_lamF M (by rfl) (free_cells (sc2 := lam_8.scope) (by decide +kernel))) (pad_cons (pd_lamD M (by rfl) (by rfl) (free_cells (sc2 := lam_7.scope) (by decide +kernel))) (pad_cons (pd_lamD M (by rfl) (by rfl) (free_cells (sc2 := lam_6.scope) (by decide +kernel))) pad_nil))))))
  (pssd_cons (psd_set (i := 8) sc_law.nd (pd_add (pd_var 8) (pd_lst (pad_cons (pd_lamF M (by rfl) (free_cells (sc2 := lam_10.scope) (by decide +kernel))) (pad_cons (pd_lamD M (by rfl) (by rfl) (free_cells (sc2 := lam_9.scope) (by decide +kernel))) pad_nil)))))
  (pssd_cons (psd_if (ptd_not (ptd_val (pd_calN h__law_like (hr.mono (by omega)) (by rfl) (pad_cons (pd_calG (ix := lamI) h__law_errors (has_cells (by decide +kernel)) (fun _ => rfl) ixOk (hr.mono (by omega)) (by rfl) (pad_cons (pd_var 8) pad_nil)) (pad_cons (pd_add (pd_mulA (pd_lst (pad_cons (pd_tup (pad_cons (pd_str [73, 110, 118, 97, 108, 105, 100, 83, 104, 97, 114, 101]) (pad_cons pd_non pad_nil))) pad_nil)) pd_int) (pd_lst (pad_cons (pd_tup (pad_cons (pd_str [73, 110, 118, 97, 108, 105, 100, 67, 111, 117, 110, 116]) (pad_cons (pd_var 7) pad_nil))) pad_nil))) pad_nil)))))
  (pssd_one (psd_ret pd_bl))
  pssd_nil)
  (pssd_one (psd_if (ptd_not (ptd_val (pd_calN h__law_like (hr.mono (by omega)) (by rfl) (pad_cons (pd_calN h__law_pair (hr.mono (by omega)) (by rfl) (pad_cons (pd_var 4) pad_nil)) (pad_cons (pd_var 3) pad_nil)))))
  (pssd_one (psd_ret pd_bl))
  pssd_nil))))))))))))
  (pssd_one (psd_ret (pd_calN h__law_like (hr.mono (by omega)) (by rfl) (pad_cons (pd_lst (pad_cons (pd_calN h__law_pair (hr.mono (by omega)) (by rfl) (pad_cons (pd_meth m_Share_power (hr.mono (by omega)) (pd_make i1_Share (hr.mono (by omega)) (by rfl) (pad_cons (pd_neg pd_int) pad_nil)) (pad_cons pd_int pad_nil)) pad_nil)) (pad_cons (pd_calN h__law_pair (hr.mono (by omega)) (by rfl) (pad_cons (pd_meth m_Share_power (hr.mono (by omega)) (pd_make i1_Share (hr.mono (by omega)) (by rfl) (pad_cons pd_int pad_nil)) (pad_cons pd_int pad_nil)) pad_nil)) pad_nil))) (pad_cons (pd_lst (pad_cons (pd_tup (pad_cons pd_int (pad_cons pd_int pad_nil))) (pad_cons (pd_tup (pad_cons pd_int (pad_cons pd_int pad_nil))) pad_nil))) pad_nil)))))))
def inB (a b : Int) : D → Bool
  | .int i => decide (a ≤ i) && decide (i ≤ b)
  | _ => false
def sp_is_integer : DSp := spDat fun ds Q _ => ∃ v, ds = [v] ∧ kOk v = true ∧ Q (.bl (isI v))
def sp_is_within : DSp := spDat fun ds Q _ => ∃ v a b, ds = [v, .int a, .int b] ∧ kOk v = true ∧ Q (.bl (inB a b v))
theorem pu_is_integer : Rd sp_is_integer 1 wb_is_integer := by
  rintro ws μ Q E ⟨ds, rfl, v, rfl, hv, hq⟩
  refine isiI hv (br (fun c => ?_) fun c => ?_)
  · refine isiB hv ?_
    cases v <;> first | (cases c; done) | exact hq
  · cases v <;> first | (cases c; done) | exact hq
theorem pu_is_within : Rd sp_is_within 3 (wb_is_within sp_is_integer) := by
  rintro ws μ Q E ⟨ds, rfl, v, a, b, rfl, hv, hq⟩
  refine ⟨rfl, wFn_dat [v] rfl ⟨v, rfl, hv, br (fun c => ?_) fun c => ?_⟩⟩
  · cases v <;> first | (cases c; done) | skip
    rename_i i
    refine br (fun c1 => ?_) fun c1 => ?_
    · have : inB a b (.int i) = decide (i ≤ b) := by
        show (decide (a ≤ i) && decide (i ≤ b)) = _
        rw [show decide (a ≤ i) = true from c1]; rfl
      rw [this] at hq
      exact hq
    · have : inB a b (.int i) = false := by
        show (decide (a ≤ i) && decide (i ≤ b)) = _
        rw [show decide (a ≤ i) = false from c1]; rfl
      rw [this] at hq
      exact hq
  · cases v <;> first | (cases c; done) | exact hq
theorem len2 : 2 ≤ 16777216 := by decide
def sp_divisor : DSp := spDat fun ds Q _ => ∃ a b : Int, ds = [.int a, .int b] ∧ 0 ≤ a ∧ 0 ≤ b ∧ Q (.int (gI a b))
def sp_ratio : DSp := spDat fun ds Q _ => ∃ t b : Int, ds = [.int t, .int b] ∧ b ≠ 0 ∧ Bg b ∧ Q (pr (rat t b))
def sp_two (f : Int × Int → Int × Int → Int × Int) (C : Int × Int → Int × Int → Prop) : DSp := spDat fun ds Q _ => ∃ p q : Int × Int, ds = [pr p, pr q] ∧ Sm p.1 ∧ Sm p.2 ∧ Sm q.1 ∧ Sm q.2 ∧ C p q ∧ Q (pr (f p q))
abbrev C0 (p q : Int × Int) : Prop := p.2 ≠ 0 ∧ q.2 ≠ 0
abbrev C1 (p q : Int × Int) : Prop := p.2 ≠ 0 ∧ q.1 ≠ 0
theorem loop_div {μ : List O} {D : DEnds} : ∀ (k : Nat) (a b : Int), 0 ≤ a → 0 ≤ b → b.toNat ≤ k → (∀ u, D.nx ⟨[some (.d (.int (gI a b))), u], μ⟩) →
    wWhileN (wTest (wOp oGt (wVar 1) (wC (.int 0)))) (wPar 0 1 (wCons (wVar 1) (wCons (wOp oMod (wVar 0) (wVar 1)) wNil))) D (k + 1) ⟨[some (.d (.int a)), some (.d (.int b))], μ⟩
  | k, a, b, ha, hb, hk, h => by
    refine br (fun c => ?_) fun c => ?_
    · have c : 0 < b := of_decide_eq_true c
      cases k with
      | zero => omega
      | succ k =>
        have m0 := Int.emod_nonneg a (show b ≠ 0 by omega)
        have m1 := Int.emod_lt_of_pos a c
        refine ⟨c, loop_div k b (a % b) hb m0 (by omega) fun u => ?_⟩
        rw [gI_step ha c]
        exact h u
    · have c : ¬ 0 < b := of_decide_eq_false c
      have e : b = 0 := by omega
      subst e
      have z := h (some (.d (.int 0)))
      rw [gI_zero ha] at z
      exact z
theorem pu_divisor : Rd sp_divisor 2 wb_divisor := by
  rintro ws μ Q E ⟨ds, rfl, a, b, rfl, ha, hb, hq⟩
  exact ⟨b.toNat + 1, loop_div b.toNat a b ha hb (Nat.le_refl _) fun u => hq⟩
theorem pu_ratio : Rd sp_ratio 3 (wb_ratio sp_divisor) := by
  rintro ws μ Q E ⟨ds, rfl, t, b, rfl, hb, bb, hq⟩
  have ab : ∀ t : Int, 0 ≤ (if t < 0 then -t else t) := fun t => by split <;> omega
  have dv : ∀ t b : Int, b ≠ 0 → Bg b → ∀ x, CDivW x (gI t b) := fun t b h1 h2 x => okD (gI_pos h1) (Nat.lt_of_le_of_lt (gI_le h1) h2)
  refine br (fun c => ?_) fun c => ?_
  · have c : b < 0 := of_decide_eq_true c
    refine ⟨rfl, wFn_dat [.int (if -t < 0 then - -t else -t), .int (-b)] rfl ⟨_, _, rfl, ab _, by omega, ?_⟩⟩
    have e : gI (if -t < 0 then - -t else -t) (-b) = gI t b := by rw [gI_ab, gI_neg]
    rw [e]
    refine ⟨dv t b hb bb _, dv t b hb bb _, len2, ?_⟩
    have z : rat t b = (-t / gI t b, -b / gI t b) := by unfold rat; rw [if_neg (by omega)]
    rw [z] at hq
    exact hq
  · have c : ¬ b < 0 := of_decide_eq_false c
    refine ⟨rfl, wFn_dat [.int (if t < 0 then -t else t), .int b] rfl ⟨_, _, rfl, ab _, by omega, ?_⟩⟩
    rw [gI_ab]
    refine ⟨dv t b hb bb _, dv t b hb bb _, len2, ?_⟩
    have z : rat t b = (t / gI t b, b / gI t b) := by unfold rat; rw [if_pos (by omega)]
    rw [z] at hq
    exact hq
theorem pu_plus : Rd (sp_two fAdd C0) 2 (wb_plus sp_ratio) := by
  rintro ws μ Q E ⟨ds, rfl, p, q, rfl, h1, h2, h3, h4, ⟨c1, c2⟩, hq⟩
  exact ⟨okM h1.bg h4.bg, okM h3.bg h2.bg, okM h2.bg h4.bg, rfl, wFn_dat [.int (p.1 * q.2 + q.1 * p.2), .int (p.2 * q.2)] rfl ⟨_, _, rfl, ne_mul c1 c2, bgM h2 h4, hq⟩⟩
theorem pu_minus : Rd (sp_two fSub C0) 2 (wb_minus sp_ratio) := by
  rintro ws μ Q E ⟨ds, rfl, p, q, rfl, h1, h2, h3, h4, ⟨c1, c2⟩, hq⟩
  exact ⟨okM h1.bg h4.bg, okM h3.bg h2.bg, okM h2.bg h4.bg, rfl, wFn_dat [.int (p.1 * q.2 - q.1 * p.2), .int (p.2 * q.2)] rfl ⟨_, _, rfl, ne_mul c1 c2, bgM h2 h4, hq⟩⟩
theorem pu_product : Rd (sp_two fMul C0) 2 (wb_product sp_ratio) := by
  rintro ws μ Q E ⟨ds, rfl, p, q, rfl, h1, h2, h3, h4, ⟨c1, c2⟩, hq⟩
  exact ⟨okM h1.bg h3.bg, okM h2.bg h4.bg, rfl, wFn_dat [.int (p.1 * q.1), .int (p.2 * q.2)] rfl ⟨_, _, rfl, ne_mul c1 c2, bgM h2 h4, hq⟩⟩
theorem pu_quotient : Rd (sp_two fDiv C1) 2 (wb_quotient sp_ratio) := by
  rintro ws μ Q E ⟨ds, rfl, p, q, rfl, h1, h2, h3, h4, ⟨c1, c2⟩, hq⟩
  exact ⟨okM h1.bg h4.bg, okM h2.bg h3.bg, rfl, wFn_dat [.int (p.1 * q.2), .int (p.2 * q.1)] rfl ⟨_, _, rfl, ne_mul c1 c2, bgM h2 h3, hq⟩⟩
def sp_is_less : DSp := spDat fun ds Q _ => ∃ p q : Int × Int, ds = [pr p, pr q] ∧ Sm p.1 ∧ Sm p.2 ∧ Sm q.1 ∧ Sm q.2 ∧ Q (.bl (fLess p q))
theorem pu_is_less : Rd sp_is_less 2 wb_is_less := by
  rintro ws μ Q E ⟨ds, rfl, p, q, rfl, h1, h2, h3, h4, hq⟩
  exact ⟨okM h1.bg h4.bg, okM h3.bg h2.bg, hq⟩
abbrev sp_plus : DSp := sp_two fAdd C0
abbrev sp_minus : DSp := sp_two fSub C0
abbrev sp_product : DSp := sp_two fMul C0
abbrev sp_quotient : DSp := sp_two fDiv C1
abbrev tb_raise : DS := (wSeq (wIfS (wTest (wOp oEq (wOp oMod (wVar 5) (wC (.int 2))) (wC (.int 1)))) (wAsg (wTup (wCons (wOp oMul (wIx (wVar 4) (wC (.int 0))) (wVar 2)) (wCons (wOp oMul (wIx (wVar 4) (wC (.int 1))) (wVar 3)) wNil))) (gN 4)) wNext)
  (wPar3 2 3 5 (wCons (wOp oMul (wVar 2) (wVar 2)) (wCons (wOp oMul (wVar 3) (wVar 3)) (wCons (wOp oFdiv (wVar 5) (wC (.int 2))) wNil)))))
abbrev ct_raise : DT := wTest (wOp oGt (wVar 5) (wC (.int 0)))
abbrev stR (u v : Option W) (μ : List O) (x y a b l : Int) : Dst := ⟨[u, v, some (.d (.int x)), some (.d (.int y)), some (.d (pr (a, b))), some (.d (.int l))], μ⟩
theorem raise_odd {u v : Option W} {μ : List O} {D : DEnds} {k : Nat} {x y a b l : Int} (hl : 0 < l) (ho : l % 2 = 1) (hx : Bg x) (hy : Bg y) (ha : Bg a) (hb : Bg b) (h : wWhileN ct_raise tb_raise D k (stR u v μ (x * x) (y * y) (a * x) (b * y) (l / 2))) : wWhileN ct_raise tb_raise D (k + 1) (stR u v μ x y a b l) := by
  refine brT (decide_eq_true hl) ?_
  refine ⟨(by decide : (0 : Int) < 2), Dl.eqI (brT (decide_eq_true ho) ?_)⟩
  refine ⟨okM ha hx, okM hb hy, len2, ?_⟩
  exact ⟨okM hx hx, okM hy hy, okD (by decide) (sm_of 3 (by decide)).bg, h⟩
theorem raise_even {u v : Option W} {μ : List O} {D : DEnds} {k : Nat} {x y a b l : Int} (hl : 0 < l) (ho : l % 2 = 0) (hx : Bg x) (hy : Bg y) (h : wWhileN ct_raise tb_raise D k (stR u v μ (x * x) (y * y) a b (l / 2))) : wWhileN ct_raise tb_raise D (k + 1) (stR u v μ x y a b l) := by
  refine brT (decide_eq_true hl) ?_
  refine ⟨(by decide : (0 : Int) < 2), Dl.eqI (brF (decide_eq_false (by omega)) ?_)⟩
  exact ⟨okM hx hx, okM hy hy, okD (by decide) (sm_of 3 (by decide)).bg, h⟩
theorem raise_end {u v : Option W} {μ : List O} {D : DEnds} {k : Nat} {x y a b : Int} (h : D.nx (stR u v μ x y a b 0)) : wWhileN ct_raise tb_raise D (k + 1) (stR u v μ x y a b 0) := brF rfl h
theorem bg_pow {x : Int} {l : Nat} (hl : 0 < l) (h : x.natAbs ^ l < bG) : Bg x := by
  by_cases z : x.natAbs = 0
  · simp only [Bg, z]; exact Nat.lt_of_lt_of_le bS_pos bS_le
  · exact Nat.lt_of_le_of_lt (Nat.le_pow hl) h
theorem pow_half {x : Int} {l : Nat} (h : x.natAbs ^ l < bG) : (x * x).natAbs ^ (l / 2) < bG := by
  rw [Int.natAbs_mul, ← Nat.pow_two, ← Nat.pow_mul]
  by_cases z : x.natAbs = 0
  · rw [z]
    by_cases e : 2 * (l / 2) = 0
    · rw [e, Nat.pow_zero]; exact Nat.lt_of_lt_of_le (by decide) (show 2 ≤ bG from by unfold bG; exact Nat.le_trans (by decide) (Nat.pow_le_pow_right (show 0 < 2 by decide) (show 1 ≤ 8000 by decide)))
    · rw [Nat.zero_pow (by omega)]; exact Nat.lt_of_lt_of_le bS_pos bS_le
  · exact Nat.lt_of_le_of_lt (Nat.pow_le_pow_right (by omega) (by omega)) h
theorem acc_odd {x a : Int} {l : Nat} (ho : l % 2 = 1) : a * x * (x * x) ^ (l / 2) = a * x ^ l := by
  have e : l = 2 * (l / 2) + 1 := by omega
  rw [show x * x = x ^ 2 by rw [Int.pow_succ, Int.pow_succ, Int.pow_zero, Int.one_mul], ← Int.pow_mul, Int.mul_assoc, ← Int.pow_succ', ← e]
theorem acc_even {x a : Int} {l : Nat} (ho : l % 2 = 0) : a * (x * x) ^ (l / 2) = a * x ^ l := by
  have e : l = 2 * (l / 2) := by omega
  rw [show x * x = x ^ 2 by rw [Int.pow_succ, Int.pow_succ, Int.pow_zero, Int.one_mul], ← Int.pow_mul, ← e]
theorem acc_bg {x a : Int} {l : Nat} (hl : 0 < l) (h : a.natAbs * x.natAbs ^ l < bG) : Bg (a * x) := by
  simp only [Bg, Int.natAbs_mul]
  by_cases z : x.natAbs = 0
  · rw [z]; exact Nat.lt_of_lt_of_le bS_pos bS_le
  · exact Nat.lt_of_le_of_lt (Nat.mul_le_mul_left _ (Nat.le_pow hl)) h
theorem abs_acc (a x : Int) (l : Nat) : (a * x ^ l).natAbs = a.natAbs * x.natAbs ^ l := by rw [Int.natAbs_mul, Int.natAbs_pow]
theorem raise_loop {u v : Option W} {μ : List O} {D : DEnds} : ∀ (k l : Nat) (x y a b : Int), l < 2 ^ k → x.natAbs ^ l < bG → y.natAbs ^ l < bG → Bg a → Bg b → (a * x ^ l).natAbs < bG → (b * y ^ l).natAbs < bG →
    (∀ x' y', D.nx (stR u v μ x' y' (a * x ^ l) (b * y ^ l) 0)) → wWhileN ct_raise tb_raise D (k + 1) (stR u v μ x y a b l)
  | k, 0, x, y, a, b, _, _, _, _, _, _, _, h => by
    have := h x y
    rw [Int.pow_zero, Int.pow_zero, Int.mul_one, Int.mul_one] at this
    exact raise_end this
  | 0, l + 1, x, y, a, b, hk, _, _, _, _, _, _, _ => absurd hk (by simp)
  | k + 1, l + 1, x, y, a, b, hk, hx, hy, ha, hb, h1, h2, h => by
    have bx := bg_pow (Nat.succ_pos l) hx
    have bY := bg_pow (Nat.succ_pos l) hy
    have hk2 : (l + 1) / 2 < 2 ^ k := by rw [Nat.pow_succ] at hk; omega
    have e2 : ((l + 1 : Nat) : Int) / 2 = (((l + 1) / 2 : Nat) : Int) := by omega
    rcases Nat.mod_two_eq_zero_or_one (l + 1) with ho | ho
    · refine raise_even (by omega) (by omega) bx bY ?_
      rw [e2]
      refine raise_loop k ((l + 1) / 2) (x * x) (y * y) a b hk2 (pow_half hx) (pow_half hy) ha hb (by rw [acc_even ho]; exact h1) (by rw [acc_even ho]; exact h2) ?_
      rw [acc_even ho, acc_even ho]; exact h
    · refine raise_odd (by omega) (by omega) bx bY ha hb ?_
      rw [e2]
      refine raise_loop k ((l + 1) / 2) (x * x) (y * y) (a * x) (b * y) hk2 (pow_half hx) (pow_half hy) (acc_bg (Nat.succ_pos l) (by rw [← abs_acc]; exact h1)) (acc_bg (Nat.succ_pos l) (by rw [← abs_acc]; exact h2)) (by rw [acc_odd ho]; exact h1) (by rw [acc_odd ho]; exact h2) ?_
      rw [acc_odd ho, acc_odd ho]; exact h
def sp_raised : DSp := spDat fun ds Q _ => ∃ (p : Int × Int) (n : Nat), ds = [pr p, .int n] ∧ p.1.natAbs ^ n < bG ∧ p.2.natAbs ^ n < bG ∧ Q (pr (fPow p n))
theorem pu_raised : Rd sp_raised 6 wb_raised := by
  rintro ws μ Q E ⟨ds, rfl, p, n, rfl, h1, h2, hq⟩
  refine ⟨len2, show 4 ≤ 16777216 by decide, rfl, ?_⟩
  have one : Bg 1 := (sm_of 1 (by decide)).bg
  refine ⟨n + 1, raise_loop n n p.1 p.2 1 1 (Nat.lt_two_pow_self) h1 h2 one one (by rw [Int.one_mul, Int.natAbs_pow]; exact h1) (by rw [Int.one_mul, Int.natAbs_pow]; exact h2) fun x' y' => ?_⟩
  rw [Int.one_mul, Int.one_mul]
  exact hq
def isP (x : D) (p : Int × Int) : Prop := x = sh p ∨ x = .int p.1 ∧ p.2 = 1
/-- a plain value that is no whole number -/
structure NoI (x : D) : Prop where
  k : kOk x = true
  n : isI x = false
abbrev cpsIS : List Nat := [73, 110, 118, 97, 108, 105, 100, 83, 104, 97, 114, 101]
abbrev xShare : Ex := ⟨"InvalidShare", ["code"], [.str cpsIS]⟩
abbrev xCount (v : D) : Ex := ⟨"InvalidCount", ["given", "code"], [v, .str [73, 110, 118, 97, 108, 105, 100, 67, 111, 117, 110, 116]]⟩
def sp_Share_top : DSp := spDat fun ds Q _ => ∃ p : Int × Int, ds = [sh p] ∧ Q (.int p.1)
def sp_Share_bottom : DSp := spDat fun ds Q _ => ∃ p : Int × Int, ds = [sh p] ∧ Q (.int p.2)
theorem pu_Share_top : Rd sp_Share_top 1 wb_Share_top := by
  rintro ws μ Q E ⟨ds, rfl, p, rfl, hq⟩
  exact ⟨.inl ⟨_, _, pr p, rfl, lookD_hit _ _ _ _, hq⟩⟩
theorem pu_Share_bottom : Rd sp_Share_bottom 1 wb_Share_bottom := by
  rintro ws μ Q E ⟨ds, rfl, p, rfl, hq⟩
  exact ⟨.inl ⟨_, _, pr p, rfl, lookD_hit _ _ _ _, hq⟩⟩
def sp_pair_of : DSp := spDat fun ds Q _ => ∃ x, ds = [x] ∧ ((∃ p, isP x p ∧ Q (pr p)) ∨ (NoI x ∧ Q .non))
theorem pu_pair_of : Rd sp_pair_of 1 (wb_pair_of sp_Share_bottom sp_Share_top sp_is_integer) := by
  rintro ws μ Q E ⟨ds, rfl, x, rfl, h⟩
  rcases h with ⟨p, rfl | ⟨rfl, h2⟩, hq⟩ | ⟨hn, hq⟩
  · refine ⟨.own "Share", .own "Share", true, rfl, rfl, by decide +kernel, ?_⟩
    refine brT rfl ?_
    refine ⟨.inl ⟨_, _, rfl⟩, wFn_dat [sh p] rfl ⟨p, rfl, ?_⟩⟩
    refine ⟨.inl ⟨_, _, rfl⟩, wFn_dat [sh p] rfl ⟨p, rfl, ?_⟩⟩
    exact ⟨len2, hq⟩
  · refine ⟨.ty "int", .own "Share", false, rfl, rfl, by decide +kernel, ?_⟩
    refine brF rfl ?_
    refine ⟨rfl, wFn_dat [.int p.1] rfl ⟨.int p.1, rfl, rfl, brT rfl ⟨len2, ?_⟩⟩⟩
    have e : pr p = pr (p.1, 1) := by unfold pr; rw [h2]
    rw [e] at hq
    exact hq
  · obtain ⟨hk, hn⟩ := hn
    have go : ∀ t, tyOf x = some (.ty t) → wIf (wTest (wCalN 1 sp_is_integer (wCons (wVar 0) wNil))) (wTup (wCons (wVar 0) (wCons (wC (.int 1)) wNil))) (wC .non) ⟨[some (.d x)], μ⟩ (fun v st1 => Q v st1.μ) (fun _ _ => False) := fun t _ =>
      ⟨rfl, wFn_dat [x] rfl ⟨x, rfl, hk, brF hn hq⟩⟩
    cases x <;> first | (cases hk; done) | (cases hn; done) | skip
    all_goals
      refine ⟨.ty _, .own "Share", false, rfl, rfl, by decide +kernel, ?_⟩
      refine brF rfl ?_
      exact ⟨rfl, wFn_dat [_] rfl ⟨_, rfl, hk, brF hn hq⟩⟩
def sp_need_pair : DSp := spDat fun ds Q E => ∃ x, ds = [x] ∧ ((∃ p, isP x p ∧ Q (pr p)) ∨ (NoI x ∧ E xShare))
theorem pu_need_pair : Rd sp_need_pair 2 (wb_need_pair sp_pair_of) := by
  rintro ws μ Q E ⟨ds, rfl, x, rfl, h⟩
  rcases h with ⟨p, hp, hq⟩ | ⟨hn, hq⟩
  · exact ⟨rfl, wFn_dat [x] rfl ⟨x, rfl, .inl ⟨p, hp, brF rfl hq⟩⟩⟩
  · exact ⟨rfl, wFn_dat [x] rfl ⟨x, rfl, .inr ⟨hn, brT rfl ⟨[], rfl, rfl, hq⟩⟩⟩⟩
structure BadI (v w : D) : Prop where
  kv : kOk v = true
  kw : kOk w = true
  bad : isI v = false ∨ isI w = false ∨ ∃ b, w = .int b ∧ b < 1
def sp_Share___init__ : DSp := fun ws μ Q E => ∃ v w, ws = [.loc 0, .d v, .d w] ∧ μ = [.ins "Share" [] []] ∧ ((∃ t b : Int, v = .int t ∧ w = .int b ∧ 1 ≤ b ∧ Bg b ∧ Q (.d .non) [.ins "Share" ["pair"] [pr (rat t b)]]) ∨ (BadI v w ∧ E xShare [.ins "Share" [] []]))
theorem pu_Share___init__ : Rd sp_Share___init__ 3 (wb_Share___init__ sp_is_integer sp_ratio) := by
  rintro ws μ Q E ⟨v, w, rfl, rfl, h⟩
  rcases h with ⟨t, b, rfl, rfl, h1, hb, hq⟩ | ⟨⟨hv, hw, hbad⟩, hq⟩
  · refine ⟨rfl, wFn_dat [.int t] rfl ⟨.int t, rfl, rfl, brF rfl ?_⟩⟩
    refine ⟨rfl, wFn_dat [.int b] rfl ⟨.int b, rfl, rfl, brF rfl ?_⟩⟩
    refine brF (decide_eq_false (by omega)) ?_
    exact ⟨rfl, wFn_dat [.int t, .int b] rfl ⟨t, b, rfl, by omega, hb, ⟨0, [], [], pr (rat t b), rfl, rfl, rfl, by decide, hq⟩⟩⟩
  · have fin : wRaise "InvalidShare" [] cpsIS wNil { nx := fun st => Q (.d .non) st.μ, rt := Q, ex := fun x st => E x st.μ } ⟨startD 3 [.loc 0, .d v, .d w], [.ins "Share" [] []]⟩ := ⟨[], rfl, rfl, hq⟩
    refine ⟨rfl, wFn_dat [v] rfl ⟨v, rfl, hv, br (fun c => brT rfl fin) fun c => ?_⟩⟩
    have c : isI v = true := by simpa using c
    refine ⟨rfl, wFn_dat [w] rfl ⟨w, rfl, hw, br (fun c2 => brT rfl fin) fun c2 => ?_⟩⟩
    have c2 : isI w = true := by simpa using c2
    rcases hbad with h | h | ⟨b, rfl, hb⟩
    · rw [c] at h; cases h
    · rw [c2] at h; cases h
    · exact brT (decide_eq_true hb) fin
def sp_share_of : DSp := spDat fun ds Q _ => ∃ p : Int × Int, ds = [pr p] ∧ 1 ≤ p.2 ∧ Bg p.2 ∧ Q (sh (rat p.1 p.2))
theorem pu_share_of : Rd sp_share_of 1 (wb_share_of sp_Share___init__) := by
  rintro ws μ Q E ⟨ds, rfl, p, rfl, h1, hb, hq⟩
  exact ⟨rfl, .int p.1, .int p.2, rfl, rfl, .inl ⟨p.1, p.2, rfl, rfl, h1, hb, rfl, _, _, rfl, hq⟩⟩
/-- two shares, or a share and a whole number -/
def sp_op (f : Int × Int → Int × Int → Int × Int) (C : Int × Int → Int × Int → Prop) : DSp := spDat fun ds Q E => ∃ p x, ds = [sh p, x] ∧ ((∃ q, isP x q ∧ Sm p.1 ∧ Sm p.2 ∧ Sm q.1 ∧ Sm q.2 ∧ C p q ∧ Q (sh (f p q))) ∨ (NoI x ∧ E xShare))
structure Fok (f : Int × Int → Int × Int → Int × Int) (C : Int × Int → Int × Int → Prop) : Prop where
  ok : ∀ p q, Sm p.1 → Sm p.2 → Sm q.1 → Sm q.2 → C p q → 1 ≤ (f p q).2 ∧ Bg (f p q).2 ∧ rat (f p q).1 (f p q).2 = f p q
theorem fok_rat {t b : Int} (hb : b ≠ 0) (bb : Bg b) : 1 ≤ (rat t b).2 ∧ Bg (rat t b).2 ∧ rat (rat t b).1 (rat t b).2 = rat t b :=
  ⟨rat_pos hb, Nat.lt_of_le_of_lt (rat_bnd hb).2 bb, rat_idem hb⟩
theorem fok_add : Fok fAdd C0 := ⟨fun p q _ h2 _ h4 c => fok_rat (ne_mul c.1 c.2) (bgM h2 h4)⟩
theorem fok_sub : Fok fSub C0 := ⟨fun p q _ h2 _ h4 c => fok_rat (ne_mul c.1 c.2) (bgM h2 h4)⟩
theorem fok_mul : Fok fMul C0 := ⟨fun p q _ h2 _ h4 c => fok_rat (ne_mul c.1 c.2) (bgM h2 h4)⟩
theorem fok_div : Fok fDiv C1 := ⟨fun p q _ h2 h3 _ c => fok_rat (ne_mul c.1 c.2) (bgM h2 h3)⟩
theorem op_end {f : Int × Int → Int × Int → Int × Int} {C : Int × Int → Int × Int → Prop} (F : Fok f C) {p q : Int × Int} (h1 : Sm p.1) (h2 : Sm p.2) (h3 : Sm q.1) (h4 : Sm q.2) (c : C p q) {st : Dst} {Q : DQ} {E : DX} (hq : Q (.d (sh (f p q))) st) : wFn sp_share_of [.d (pr (f p q))] st Q E := by
  obtain ⟨a1, a2, a3⟩ := F.ok p q h1 h2 h3 h4 c
  refine wFn_dat [pr (f p q)] rfl ⟨f p q, rfl, a1, a2, ?_⟩
  rw [a3]; exact hq
abbrev sp_Share___add__ : DSp := sp_op fAdd C0
theorem pu_Share___add__ : Rd (sp_op fAdd C0) 2 (wb_Share___add__ sp_need_pair (sp_two fAdd C0) sp_share_of) := by
  rintro ws μ Q E ⟨ds, rfl, p, x, rfl, h⟩
  rcases h with ⟨q, hx, h1, h2, h3, h4, c, hq⟩ | ⟨hn, hq⟩
  · exact ⟨.inl ⟨_, _, pr p, rfl, lookD_hit _ _ _ _, rfl, wFn_dat [x] rfl ⟨x, rfl, .inl ⟨q, hx, rfl, wFn_dat [pr p, pr q] rfl ⟨p, q, rfl, h1, h2, h3, h4, c, rfl, op_end fok_add h1 h2 h3 h4 c hq⟩⟩⟩⟩⟩
  · exact ⟨.inl ⟨_, _, pr p, rfl, lookD_hit _ _ _ _, rfl, wFn_dat [x] rfl ⟨x, rfl, .inr ⟨hn, hq⟩⟩⟩⟩
abbrev sp_Share___sub__ : DSp := sp_op fSub C0
theorem pu_Share___sub__ : Rd (sp_op fSub C0) 2 (wb_Share___sub__ (sp_two fSub C0) sp_need_pair sp_share_of) := by
  rintro ws μ Q E ⟨ds, rfl, p, x, rfl, h⟩
  rcases h with ⟨q, hx, h1, h2, h3, h4, c, hq⟩ | ⟨hn, hq⟩
  · exact ⟨.inl ⟨_, _, pr p, rfl, lookD_hit _ _ _ _, rfl, wFn_dat [x] rfl ⟨x, rfl, .inl ⟨q, hx, rfl, wFn_dat [pr p, pr q] rfl ⟨p, q, rfl, h1, h2, h3, h4, c, rfl, op_end fok_sub h1 h2 h3 h4 c hq⟩⟩⟩⟩⟩
  · exact ⟨.inl ⟨_, _, pr p, rfl, lookD_hit _ _ _ _, rfl, wFn_dat [x] rfl ⟨x, rfl, .inr ⟨hn, hq⟩⟩⟩⟩
abbrev sp_Share___mul__ : DSp := sp_op fMul C0
theorem pu_Share___mul__ : Rd (sp_op fMul C0) 2 (wb_Share___mul__ sp_need_pair (sp_two fMul C0) sp_share_of) := by
  rintro ws μ Q E ⟨ds, rfl, p, x, rfl, h⟩
  rcases h with ⟨q, hx, h1, h2, h3, h4, c, hq⟩ | ⟨hn, hq⟩
  · exact ⟨.inl ⟨_, _, pr p, rfl, lookD_hit _ _ _ _, rfl, wFn_dat [x] rfl ⟨x, rfl, .inl ⟨q, hx, rfl, wFn_dat [pr p, pr q] rfl ⟨p, q, rfl, h1, h2, h3, h4, c, rfl, op_end fok_mul h1 h2 h3 h4 c hq⟩⟩⟩⟩⟩
  · exact ⟨.inl ⟨_, _, pr p, rfl, lookD_hit _ _ _ _, rfl, wFn_dat [x] rfl ⟨x, rfl, .inr ⟨hn, hq⟩⟩⟩⟩
def sp_Share_divided_by : DSp := spDat fun ds Q E => ∃ p x, ds = [sh p, x] ∧ ((∃ q, isP x q ∧ Sm p.1 ∧ Sm p.2 ∧ Sm q.1 ∧ Sm q.2 ∧ C1 p q ∧ Q (sh (fDiv p q))) ∨ (∃ q, isP x q ∧ q.1 = 0 ∧ E xShare) ∨ (NoI x ∧ E xShare))
theorem pu_Share_divided_by : Rd sp_Share_divided_by 3 (wb_Share_divided_by sp_need_pair (sp_two fDiv C1) sp_share_of) := by
  rintro ws μ Q E ⟨ds, rfl, p, x, rfl, h⟩
  rcases h with ⟨q, hx, h1, h2, h3, h4, c, hq⟩ | ⟨q, hx, h0, hq⟩ | ⟨hn, hq⟩
  · refine ⟨rfl, wFn_dat [x] rfl ⟨x, rfl, .inl ⟨q, hx, Dl.eqI (brF (decide_eq_false c.2) ?_)⟩⟩⟩
    exact ⟨.inl ⟨_, _, pr p, rfl, lookD_hit _ _ _ _, rfl, wFn_dat [pr p, pr q] rfl ⟨p, q, rfl, h1, h2, h3, h4, c, rfl, op_end fok_div h1 h2 h3 h4 c hq⟩⟩⟩
  · exact ⟨rfl, wFn_dat [x] rfl ⟨x, rfl, .inl ⟨q, hx, Dl.eqI (brT (decide_eq_true h0) ⟨[], rfl, rfl, hq⟩)⟩⟩⟩
  · exact ⟨rfl, wFn_dat [x] rfl ⟨x, rfl, .inr ⟨hn, hq⟩⟩⟩
def sp_Share_is_below : DSp := spDat fun ds Q E => ∃ p x, ds = [sh p, x] ∧ ((∃ q, isP x q ∧ Sm p.1 ∧ Sm p.2 ∧ Sm q.1 ∧ Sm q.2 ∧ Q (.bl (fLess p q))) ∨ (NoI x ∧ E xShare))
theorem pu_Share_is_below : Rd sp_Share_is_below 2 (wb_Share_is_below sp_is_less sp_need_pair) := by
  rintro ws μ Q E ⟨ds, rfl, p, x, rfl, h⟩
  rcases h with ⟨q, hx, h1, h2, h3, h4, hq⟩ | ⟨hn, hq⟩
  · exact ⟨.inl ⟨_, _, pr p, rfl, lookD_hit _ _ _ _, rfl, wFn_dat [x] rfl ⟨x, rfl, .inl ⟨q, hx, rfl, wFn_dat [pr p, pr q] rfl ⟨p, q, rfl, h1, h2, h3, h4, hq⟩⟩⟩⟩⟩
  · exact ⟨.inl ⟨_, _, pr p, rfl, lookD_hit _ _ _ _, rfl, wFn_dat [x] rfl ⟨x, rfl, .inr ⟨hn, hq⟩⟩⟩⟩
def sp_Share_power : DSp := spDat fun ds Q E => ∃ p v, ds = [sh p, v] ∧ ((∃ n : Nat, v = .int n ∧ n ≤ 1000 ∧ Fr p ∧ p.1.natAbs ^ n < bG ∧ p.2.natAbs ^ n < bG ∧ Q (sh (fPow p n))) ∨ (kOk v = true ∧ inB 0 1000 v = false ∧ E (xCount v)))
theorem pu_Share_power : Rd sp_Share_power 2 (wb_Share_power sp_is_within sp_raised sp_share_of) := by
  rintro ws μ Q E ⟨ds, rfl, p, v, rfl, h⟩
  rcases h with ⟨n, rfl, hn, hp, h1, h2, hq⟩ | ⟨hk, hb, hq⟩
  · have hi : inB 0 1000 (.int n) = true := by
      show (decide ((0 : Int) ≤ n) && decide ((n : Int) ≤ 1000)) = true
      rw [decide_eq_true (by omega), decide_eq_true (by omega)]; rfl
    refine ⟨rfl, wFn_dat [.int n, .int 0, .int 1000] rfl ⟨.int n, 0, 1000, rfl, rfl, brF (by rw [hi]; rfl) ?_⟩⟩
    refine ⟨.inl ⟨_, _, pr p, rfl, lookD_hit _ _ _ _, rfl, wFn_dat [pr p, .int n] rfl ⟨p, n, rfl, h1, h2, ?_⟩⟩⟩
    have f := pow_fr hp n
    refine ⟨rfl, wFn_dat [pr (fPow p n)] rfl ⟨fPow p n, rfl, f.pos, ?_, ?_⟩⟩
    · show (p.2 ^ n).natAbs < bG
      rw [Int.natAbs_pow]; exact h2
    · rw [f.id]; exact hq
  · exact ⟨rfl, wFn_dat [v, .int 0, .int 1000] rfl ⟨v, 0, 1000, rfl, hk, brT (by rw [hb]; rfl) ⟨[v], rfl, rfl, hq⟩⟩⟩
theorem loop_rat {t b : Option W} {μ : List O} {D : DEnds} : ∀ (k : Nat) (x y : Int), 0 ≤ x → 0 ≤ y → y.toNat ≤ k → (∀ u, D.nx ⟨[t, b, some (.d (.int (gI x y))), u], μ⟩) →
    wWhileN (wTest (wOp oNe (wVar 3) (wC (.int 0)))) (wPar 2 3 (wCons (wVar 3) (wCons (wOp oMod (wCall oIntS (wCons (wVar 2) wNil)) (wVar 3)) wNil))) D (k + 1) ⟨[t, b, some (.d (.int x)), some (.d (.int y))], μ⟩
  | k, x, y, hx, hy, hk, h => by
    refine neI (br (fun c => ?_) fun c => ?_)
    · have c : y ≠ 0 := by simpa using c
      cases k with
      | zero => omega
      | succ k =>
        have m0 := Int.emod_nonneg x (show y ≠ 0 by omega)
        have m1 := Int.emod_lt_of_pos x (show 0 < y by omega)
        refine ⟨show 0 < y by omega, loop_rat k y (x % y) hy m0 (by omega) fun u => ?_⟩
        rw [gI_step hx (by omega)]
        exact h u
    · have e : y = 0 := by simpa using c
      subst e
      have z := h (some (.d (.int 0)))
      rw [gI_zero hx] at z
      exact z
abbrev sp__law_ratio : DSp := sp_ratio
theorem pu__law_ratio : Rd sp_ratio 4 wb__law_ratio := by
  rintro ws μ Q E ⟨ds, rfl, t, b, rfl, hb, bb, hq⟩
  have ab : ∀ t : Int, 0 ≤ (if t < 0 then -t else t) := fun t => by split <;> omega
  have dv : ∀ x, CDivW x (gI t b) := fun x => okD (gI_pos hb) (Nat.lt_of_le_of_lt (gI_le hb) bb)
  refine ⟨(if b < 0 then -b else b).toNat + 1, loop_rat _ (if t < 0 then -t else t) (if b < 0 then -b else b) (ab _) (ab _) (Nat.le_refl _) fun u => ?_⟩
  rw [gI_abs]
  refine br (fun c => ?_) fun c => ?_
  · have c : 0 < b := of_decide_eq_true c
    have z : rat t b = (t / gI t b, b / gI t b) := by unfold rat; rw [if_pos c]
    rw [z] at hq
    exact ⟨dv _, dv _, len2, hq⟩
  · have c : ¬ 0 < b := of_decide_eq_false c
    have z : rat t b = (-t / gI t b, -b / gI t b) := by unfold rat; rw [if_neg c]
    rw [z] at hq
    exact ⟨dv _, dv _, len2, hq⟩
/-- a drawn fraction: in lowest terms, numerator and denominator below this -/
structure FrB (n : Nat) (p : Int × Int) : Prop extends Fr p where
  t : p.1.natAbs ≤ n
  b : p.2.natAbs ≤ n
def sp__law_some_pair : DSp := spBag fun ds Q _ => ∃ a b c : Int, ds = [.int a, .int b, .int c] ∧ a ≤ b ∧ -1000 ≤ a ∧ b ≤ 1000 ∧ 0 < c ∧ c ≤ 1000 ∧ ∀ p, FrB 1000 p → (0 ≤ a → 0 ≤ p.1) → p.1.natAbs ≤ max a.natAbs b.natAbs → p.2.natAbs ≤ c.natAbs → Q (pr p)
theorem pu__law_some_pair : Rd sp__law_some_pair 4 (wb__law_some_pair sp_law_draw sp__law_ratio) := by
  rintro ws μ Q E ⟨ds, b0, r, rfl, rfl, ok, a, b, c, rfl, hab, ha, hb, hc0, hc, hq⟩
  refine ⟨rfl, wFn_bag 0 [.int (b - a + 1)] b0 rfl rfl ok ⟨b - a + 1, rfl, by omega, by omega, fun d d0 d1 b1 ok1 => ?_⟩⟩
  refine ⟨rfl, wFn_bag 0 [.int c] b1 rfl rfl ok1 ⟨c, rfl, hc0, by omega, fun e e0 e1 b2 ok2 => ?_⟩⟩
  have hne : (1 + e) ≠ 0 := by omega
  obtain ⟨n1, n2⟩ := rat_bnd (t := a + d) hne
  have f := fr_rat (t := a + d) hne
  refine ⟨rfl, wFn_dat [.int (a + d), .int (1 + e)] rfl ⟨a + d, 1 + e, rfl, hne, (sm_of 20 (by omega)).bg, hq _ ⟨f, by omega, by omega⟩ (fun h0 => ?_) (by omega) (by omega) b2 ok2⟩⟩
  have : rat (a + d) (1 + e) = ((a + d) / gI (a + d) (1 + e), (1 + e) / gI (a + d) (1 + e)) := by unfold rat; rw [if_pos (by omega)]
  rw [this]
  exact Int.ediv_nonneg (by omega) (Int.le_of_lt (gI_pos hne))
theorem FrB.s1 {n : Nat} {p : Int × Int} (h : FrB n p) (hn : n ≤ 1000) : Sm p.1 := sm_of 20 (by have := h.t; omega)
theorem FrB.s2 {n : Nat} {p : Int × Int} (h : FrB n p) (hn : n ≤ 1000) : Sm p.2 := sm_of 20 (by have := h.b; omega)
def sp__law_pair : DSp := spDat fun ds Q _ => ∃ p, ds = [sh p] ∧ Q (pr p)
theorem pu__law_pair : Rd sp__law_pair 1 (wb__law_pair sp_Share_bottom sp_Share_top) := by
  rintro ws μ Q E ⟨ds, rfl, p, rfl, hq⟩
  exact ⟨.inl ⟨_, _, rfl⟩, wFn_dat [sh p] rfl ⟨p, rfl, ⟨.inl ⟨_, _, rfl⟩, wFn_dat [sh p] rfl ⟨p, rfl, ⟨len2, hq⟩⟩⟩⟩⟩
def sp__law_share : DSp := spDat fun ds Q _ => ∃ p, ds = [pr p] ∧ Fr p ∧ Bg p.2 ∧ Q (sh p)
theorem pu__law_share : Rd sp__law_share 1 (wb__law_share sp_Share___init__) := by
  rintro ws μ Q E ⟨ds, rfl, p, rfl, f, hb, hq⟩
  refine ⟨rfl, .int p.1, .int p.2, rfl, rfl, .inl ⟨p.1, p.2, rfl, rfl, f.pos, hb, rfl, _, _, rfl, ?_⟩⟩
  rw [f.id]; exact hq
theorem ix_list {xs : List D} {i : Nat} {Q : D → Prop} (hi : i < xs.length) (h : ∀ d ∈ xs, Q d) : oIx (.lst xs) (.int i) Q := by
  show (match atI xs (i : Int) with
    | some d => Q d
    | none => False)
  obtain ⟨x, e, e2⟩ := atI_nat (xs := xs) (i := (i : Int)) (by omega) (by omega)
  rw [e]
  exact h x (List.mem_of_getElem? e2)
inductive FOk : Ex → List Nat → D → Prop
  | InvalidShare : FOk ⟨"InvalidShare", ["code"], [.str [73, 110, 118, 97, 108, 105, 100, 83, 104, 97, 114, 101]]⟩ [73, 110, 118, 97, 108, 105, 100, 83, 104, 97, 114, 101] .non
  | InvalidCount (v : D) : FOk ⟨"InvalidCount", ["given", "code"], [v, .str [73, 110, 118, 97, 108, 105, 100, 67, 111, 117, 110, 116]]⟩ [73, 110, 118, 97, 108, 105, 100, 67, 111, 117, 110, 116] v
def sp__law_field : DSp := spDat fun ds Q _ => ∃ x n v, ds = [.exc x.c x.ks x.vs] ∧ FOk x n v ∧ Q v
theorem pu__law_field : Rd sp__law_field 1 wb__law_field := by
  rintro ws μ Q E ⟨ds, rfl, x, n, v, rfl, hx, hq⟩
  cases hx with
  | InvalidShare =>
    refine ⟨"InvalidShare", ["code"], [.str [73, 110, 118, 97, 108, 105, 100, 83, 104, 97, 114, 101]], .str [73, 110, 118, 97, 108, 105, 100, 83, 104, 97, 114, 101], rfl, by decide, rfl, ?_⟩
    refine ⟨by simp, ?_⟩
    refine ⟨_, _, _, rfl, rfl, rfl, brF (by rw [show (if false = true then _ else _) = _ from if_neg (by decide)]; rfl) ?_⟩
    refine ⟨"InvalidShare", ["code"], [.str [73, 110, 118, 97, 108, 105, 100, 83, 104, 97, 114, 101]], .str [73, 110, 118, 97, 108, 105, 100, 83, 104, 97, 114, 101], rfl, by decide, rfl, ?_⟩
    refine ⟨by simp, ?_⟩
    refine ⟨_, _, _, rfl, rfl, rfl, brF (by rw [show (if false = true then _ else _) = _ from if_neg (by decide)]; rfl) ?_⟩
    refine ⟨"InvalidShare", ["code"], [.str [73, 110, 118, 97, 108, 105, 100, 83, 104, 97, 114, 101]], .str [73, 110, 118, 97, 108, 105, 100, 83, 104, 97, 114, 101], rfl, by decide, rfl, ?_⟩
    refine ⟨by simp, ?_⟩
    refine ⟨_, _, _, rfl, rfl, rfl, brF (by rw [show (if false = true then _ else _) = _ from if_neg (by decide)]; rfl) ?_⟩
    refine ⟨"InvalidShare", ["code"], [.str [73, 110, 118, 97, 108, 105, 100, 83, 104, 97, 114, 101]], .str [73, 110, 118, 97, 108, 105, 100, 83, 104, 97, 114, 101], rfl, by decide, rfl, ?_⟩
    refine ⟨by simp, ?_⟩
    refine ⟨_, _, _, rfl, rfl, rfl, brF (by rw [show (if false = true then _ else _) = _ from if_neg (by decide)]; rfl) ?_⟩
    refine ⟨"InvalidShare", ["code"], [.str [73, 110, 118, 97, 108, 105, 100, 83, 104, 97, 114, 101]], .str [73, 110, 118, 97, 108, 105, 100, 83, 104, 97, 114, 101], rfl, by decide, rfl, ?_⟩
    refine ⟨by simp, ?_⟩
    refine ⟨_, _, _, rfl, rfl, rfl, brF (by rw [show (if false = true then _ else _) = _ from if_neg (by decide)]; rfl) ?_⟩
    refine ⟨"InvalidShare", ["code"], [.str [73, 110, 118, 97, 108, 105, 100, 83, 104, 97, 114, 101]], .str [73, 110, 118, 97, 108, 105, 100, 83, 104, 97, 114, 101], rfl, by decide, rfl, ?_⟩
    refine ⟨by simp, ?_⟩
    refine ⟨_, _, _, rfl, rfl, rfl, brF (by rw [show (if false = true then _ else _) = _ from if_neg (by decide)]; rfl) ?_⟩
    refine ⟨"InvalidShare", ["code"], [.str [73, 110, 118, 97, 108, 105, 100, 83, 104, 97, 114, 101]], .str [73, 110, 118, 97, 108, 105, 100, 83, 104, 97, 114, 101], rfl, by decide, rfl, ?_⟩
    refine Dl.eqT (by decide) (by decide) (brF (by decide) ?_)
    refine ⟨"InvalidShare", ["code"], [.str [73, 110, 118, 97, 108, 105, 100, 83, 104, 97, 114, 101]], .str [73, 110, 118, 97, 108, 105, 100, 83, 104, 97, 114, 101], rfl, by decide, rfl, ?_⟩
    refine Dl.eqT (by decide) (by decide) (brF (by decide) ?_)
    exact hq
  | InvalidCount _ =>
    refine ⟨"InvalidCount", ["given", "code"], [v, .str [73, 110, 118, 97, 108, 105, 100, 67, 111, 117, 110, 116]], .str [73, 110, 118, 97, 108, 105, 100, 67, 111, 117, 110, 116], rfl, by decide, rfl, ?_⟩
    refine ⟨by simp, ?_⟩
    refine ⟨_, _, _, rfl, rfl, rfl, brT (by rw [show (if false = true then _ else _) = _ from if_neg (by decide)]; rfl) ?_⟩
    exact ⟨⟨"InvalidCount", ["given", "code"], [_, .str [73, 110, 118, 97, 108, 105, 100, 67, 111, 117, 110, 116]], _, rfl, by decide, rfl, hq⟩⟩
/-- its own reading: a lambda's reading tells nothing of other wishes -/
def sp__law_try (T : LamT) : CSp := fun cl cs ws μ Q E => wb__law_try T sp__law_field cl cs { nx := fun st => Q (.d .non) st.μ, rt := Q, ex := fun x st => E x st.μ } ⟨startD 2 ws, μ⟩
theorem pu__law_try (T : LamT) (cl : List (Str × Addr)) (cs : List (Str × D)) (ws : List W) (μ : List O) (Q : W → List O → Prop) (E : Ex → List O → Prop) (h : sp__law_try T cl cs ws μ Q E) :
    wb__law_try T sp__law_field cl cs { nx := fun st => Q (.d .non) st.μ, rt := Q, ex := fun x st => E x st.μ } ⟨startD 2 ws, μ⟩ := h
/-- what a lambda comes to: a value or an exception -/
structure ActR (T : LamT) (cl : List (Str × Addr)) (cs : List (Str × D)) (l : LamC) (res : D) : Prop where
  ex : ∃ (N : List Str) (r : DE) (ds : List D), (l, N, r) ∈ T ∧ ds.length = N.length ∧ (∀ (i : Nat) (x : Str), N[i]? = some x → ∃ d, ds[i]? = some d ∧ (x, d) ∈ cs) ∧
    ∀ (Q' : DQ) (E' : DX), (∀ st' w, st'.μ = [] → res = .tup [.str [118, 97, 108, 117, 101], w] → Q' (.d w) st') → (∀ st' x n v, st'.μ = [] → FOk x n v → res = .tup [.str n, v] → E' x st') → r ⟨startD N.length (ds.map W.d), []⟩ Q' E'
theorem try_at {T : LamT} {cl : List (Str × Addr)} {cs : List (Str × D)} {st : Dst} {Q : DQ} {E : DX} {l : LamC} {res : D} (h : ActR T cl cs l res) (hq : Q (.d res) st) : wFn (sp__law_try T cl cs) [.d (.lamR l cl)] st Q E := by
  obtain ⟨N, r, ds, hm, hl, hc, hr⟩ := h.ex
  refine ⟨?_⟩
  have fin : ∀ μ' : List O, μ' = [] → Q (.d res) ⟨st.δ, st.μ ++ μ'⟩ := fun μ' e => by rw [e, List.append_nil]; exact hq
  refine ⟨(l, N, r), ds, hm, rfl, hl, hc, hr _ _ (fun st' w e er => ?_) fun st' x n v e hx er => ?_⟩
  · refine ⟨by simp, ?_⟩
    have := fin st'.μ e
    rw [er] at this
    exact this
  · refine ⟨(by cases hx <;> (dsimp only; decide) : x.c ∈ excT), ?_⟩
    have e2 : ∃ d, (x.ks.zip x.vs).lookup ("code" : Str) = some d ∧ d = .str n ∧ (x.c, ("code" : Str)) ∈ xfT := by cases hx <;> exact ⟨_, rfl, rfl, (by dsimp only; decide)⟩
    obtain ⟨d, e2, rfl, e3⟩ := e2
    refine ⟨x.c, x.ks, x.vs, _, rfl, e3, e2, ?_⟩
    refine ⟨rfl, wFn_dat [.exc x.c x.ks x.vs] rfl ⟨x, n, v, rfl, hx, ?_⟩⟩
    refine ⟨by simp, ?_⟩
    have := fin st'.μ e
    rw [er] at this
    exact this
def sp__law_errors (T : LamT) : CSp := fun cl cs ws μ Q E => wb__law_errors T (sp__law_try T) cl cs { nx := fun st => Q (.d .non) st.μ, rt := Q, ex := fun x st => E x st.μ } ⟨startD 2 ws, μ⟩
theorem pu__law_errors (T : LamT) (cl : List (Str × Addr)) (cs : List (Str × D)) (ws : List W) (μ : List O) (Q : W → List O → Prop) (E : Ex → List O → Prop) (h : sp__law_errors T cl cs ws μ Q E) :
    wb__law_errors T (sp__law_try T) cl cs { nx := fun st => Q (.d .non) st.μ, rt := Q, ex := fun x st => E x st.μ } ⟨startD 2 ws, μ⟩ := h
theorem errs_at {T : LamT} {cl : List (Str × Addr)} {cs : List (Str × D)} {st : Dst} {Q : DQ} {E : DX} (asks : List (LamC × D)) (h : ∀ p ∈ asks, ActR T cl cs p.1 p.2) (hl : asks.length ≤ 1000) (hq : Q (.d (.lst (asks.map (·.2)))) st) :
    wFn (sp__law_errors T cl cs) [.d (.lst (asks.map fun p => .lamR p.1 cl))] st Q E := by
  refine ⟨?_⟩
  refine lc_mapA asks _ (fun p => p.2) _ (fun p hp K K2 k => ?_) (by omega) ?_
  · refine brT rfl ⟨rfl, try_at (h p hp) ?_⟩
    exact k
  · show Q (.d (.lst (asks.map (·.2)))) ⟨st.δ, st.μ ++ []⟩
    rw [List.append_nil]
    exact hq
def sp_law : DSp := fun ws μ Q _ => ∃ xs : List Int, ws = [.scr xs] ∧ μ = [] ∧ ∀ μ', Q (.d (.bl true)) μ'
abbrev LT : LamT := lamT sp_Share___add__ sp_Share___init__ sp_Share___mul__ sp_Share___sub__ sp_Share_divided_by sp_Share_is_below sp_Share_power
abbrev L1 := wl1 sp_Share___init__ sp_Share_power sp_law_any sp_law_cells (sp__law_errors LT) (sp_like 6) sp__law_pair sp__law_share sp__law_some_pair
abbrev L2 := wl2 sp_Share___init__ sp_Share_power sp_law_any sp_law_cells (sp__law_errors LT) (sp_like 6) sp__law_pair sp__law_share sp__law_some_pair
abbrev L3 := wl3 sp_Share___init__ sp_Share_power sp_law_any sp_law_cells (sp__law_errors LT) (sp_like 6) sp__law_pair sp__law_share sp__law_some_pair
abbrev L4 := wl4 sp_Share___init__ sp_Share_power sp_law_any sp_law_cells (sp__law_errors LT) (sp_like 6) sp__law_pair sp__law_share sp__law_some_pair
abbrev L5 := wl5 sp_Share___init__ sp_Share_power sp_law_any sp_law_cells (sp__law_errors LT) (sp_like 6) sp__law_pair sp__law_share sp__law_some_pair
abbrev L6 := wl6 sp_Share___init__ sp_Share_power sp_law_any sp_law_cells (sp__law_errors LT) (sp_like 6) sp__law_pair sp__law_share sp__law_some_pair
abbrev L7 := wl7 sp_Share___init__ sp_Share_power sp_law_any sp_law_cells (sp__law_errors LT) (sp_like 6) sp__law_pair sp__law_share sp__law_some_pair
abbrev L8 := wl8 sp_Share___init__ sp_Share_power sp_law_any sp_law_cells (sp__law_errors LT) (sp_like 6) sp__law_pair sp__law_share sp__law_some_pair
abbrev L9 := wl9 sp_Share___init__ sp_Share_power sp_law_any sp_law_cells (sp__law_errors LT) (sp_like 6) sp__law_pair sp__law_share sp__law_some_pair
abbrev L10 := wl10 sp_Share___init__ sp_Share_power sp_law_any sp_law_cells (sp__law_errors LT) (sp_like 6) sp__law_pair sp__law_share sp__law_some_pair
abbrev LW := wb_law sp_Share___init__ sp_Share_power sp_law_any sp_law_cells (sp__law_errors LT) (sp_like 6) sp__law_pair sp__law_share sp__law_some_pair

abbrev dd (d : D) : Option W := some (.d d)
abbrev S9 (xs : List Int) (u2 u3 u4 u5 u6 u7 u8 : Option W) (m : List O) : Dst := ⟨[some (.scr xs), some (.loc 0), u2, u3, u4, u5, u6, u7, u8], m⟩
theorem caps_of {N : List Str} {ds : List D} {cs : List (Str × D)} (hl : ds.length = N.length) (h : ∀ p ∈ N.zip ds, p ∈ cs) : ∀ (i : Nat) (x : Str), N[i]? = some x → ∃ d, ds[i]? = some d ∧ (x, d) ∈ cs := fun i x e => by
  obtain ⟨hi, e⟩ := List.getElem?_eq_some_iff.mp e
  have hd : i < ds.length := by omega
  refine ⟨ds[i], by simp [hd], h _ ?_⟩
  have : (N.zip ds)[i]'(by rw [List.length_zip]; omega) = (x, ds[i]) := by simp [e]
  rw [← this]; exact List.getElem_mem _
theorem nofalse {A : Prop} {b : Bool} (h : b = true) (c : b = false) : A := by rw [h] at c; cases c

section
variable {xs : List Int} {u2 u3 u4 u5 u6 u7 u8 : Option W} {b : O} {r : List O} {DD : DEnds} {p : Int × Int} {cl : List (Str × Addr)} {odd low far : D}
structure OddOk (odd : D) : Prop extends NoI odd where
  ty : ∃ T, tyOf odd = some (.ty T) ∧ T ∈ ["bool", "NoneType", "str", "tuple", "list", "int"]
structure LowOk (low : D) : Prop where
  k : kOk low = true
  bad : isI low = false ∨ ∃ b, low = .int b ∧ b < 1
structure FarOk (far : D) : Prop where
  k : kOk far = true
  n : inB 0 1000 far = false
  p : plainD 4 far = true
theorem l1 (ok : BagOk b) (h : ∀ p b', FrB 1000 p → BagOk b' → DD.nx (S9 xs u2 (dd (pr p)) u4 u5 u6 u7 u8 (b' :: r))) : L1 cl DD (S9 xs u2 u3 u4 u5 u6 u7 u8 (b :: r)) :=
  ⟨rfl, wFn_bag 0 [.int (-9), .int 9, .int 9] b rfl rfl ok ⟨-9, 9, 9, rfl, by decide, by decide, by decide, by decide, by decide, fun p fp _ _ _ b' ok' => h p b' fp ok'⟩⟩
theorem l2 (fp : FrB 1000 p) (ok : BagOk b) (h : ∀ odd b', OddOk odd → BagOk b' → DD.nx (S9 xs u2 (dd (pr p)) (dd (sh p)) (dd odd) u6 u7 u8 (b' :: r))) : L2 cl DD (S9 xs u2 (dd (pr p)) u4 u5 u6 u7 u8 (b :: r)) := by
  refine ⟨rfl, wFn_dat [pr p] rfl ⟨p, rfl, fp.toFr, (fp.s2 (by decide)).bg, ?_⟩⟩
  refine ⟨by simp, by simp, by simp, rfl, wFn_bag 0 [.lst _] b rfl rfl ok ⟨_, 6, rfl, rfl, by decide, by decide, fun i hi => ?_⟩⟩
  refine ix_list hi fun odd hd b1 ok1 => ⟨by simp, rfl, h odd b1 ?_ ok1⟩
  revert odd
  exact (List.forall_mem_cons.mpr ⟨⟨⟨rfl, rfl⟩, "bool", rfl, by decide⟩, List.forall_mem_cons.mpr ⟨⟨⟨rfl, rfl⟩, "bool", rfl, by decide⟩, List.forall_mem_cons.mpr ⟨⟨⟨rfl, rfl⟩, "NoneType", rfl, by decide⟩, List.forall_mem_cons.mpr ⟨⟨⟨rfl, rfl⟩, "str", rfl, by decide⟩, List.forall_mem_cons.mpr ⟨⟨⟨rfl, rfl⟩, "tuple", rfl, by decide⟩, List.forall_mem_cons.mpr ⟨⟨⟨rfl, rfl⟩, "list", rfl, by decide⟩, fun _ h => nomatch h⟩⟩⟩⟩⟩⟩)
theorem l3 (ok : BagOk b) (h : ∀ low b', LowOk low → BagOk b' → DD.nx (S9 xs u2 u3 u4 u5 (dd low) u7 u8 (b' :: r))) : L3 cl DD (S9 xs u2 u3 u4 u5 u6 u7 u8 (b :: r)) := by
  refine ⟨by simp, rfl, wFn_bag 0 [.lst _] b rfl rfl ok ⟨_, 6, rfl, rfl, by decide, by decide, fun i hi => ?_⟩⟩
  refine ix_list hi fun low hd b1 ok1 => h low b1 ?_ ok1
  revert low
  exact (List.forall_mem_cons.mpr ⟨⟨rfl, .inr ⟨_, rfl, by decide⟩⟩, List.forall_mem_cons.mpr ⟨⟨rfl, .inr ⟨_, rfl, by decide⟩⟩, List.forall_mem_cons.mpr ⟨⟨rfl, .inr ⟨_, rfl, by decide⟩⟩, List.forall_mem_cons.mpr ⟨⟨rfl, .inl rfl⟩, List.forall_mem_cons.mpr ⟨⟨rfl, .inl rfl⟩, List.forall_mem_cons.mpr ⟨⟨rfl, .inl rfl⟩, fun _ h => nomatch h⟩⟩⟩⟩⟩⟩)
theorem l4 (ok : BagOk b) (h : ∀ far b', FarOk far → BagOk b' → DD.nx (S9 xs u2 u3 u4 u5 u6 (dd far) u8 (b' :: r))) : L4 cl DD (S9 xs u2 u3 u4 u5 u6 u7 u8 (b :: r)) := by
  refine ⟨⟨by decide, by decide, by decide⟩, by simp, rfl, wFn_bag 0 [.lst _] b rfl rfl ok ⟨_, 6, rfl, rfl, by decide, by decide, fun i hi => ?_⟩⟩
  refine ix_list hi fun far hd b1 ok1 => h far b1 ?_ ok1
  revert far
  exact (List.forall_mem_cons.mpr ⟨⟨rfl, by decide, by decide⟩, List.forall_mem_cons.mpr ⟨⟨rfl, by decide, by decide⟩, List.forall_mem_cons.mpr ⟨⟨rfl, by decide, by decide⟩, List.forall_mem_cons.mpr ⟨⟨rfl, by decide, by decide⟩, List.forall_mem_cons.mpr ⟨⟨rfl, by decide, by decide⟩, List.forall_mem_cons.mpr ⟨⟨rfl, by decide, by decide⟩, fun _ h => nomatch h⟩⟩⟩⟩⟩⟩)
theorem noP {f : Str} (h : f ≠ "pair") (x : D) : lookD f ["pair"] [x] = none := by rw [lookD_miss h]; rfl
abbrev tI : D := .tup [.str cpsIS, .non]
abbrev tC (o : D) : D := .tup [.str [73, 110, 118, 97, 108, 105, 100, 67, 111, 117, 110, 116], o]
abbrev csL (odd low : D) (p : Int × Int) (far : D) : List (Str × D) := [("_law_odd", odd), ("_law_low", low), ("_law_share_here", sh p), ("_law_far", far)]
theorem a0 (ho : OddOk odd) (hl : LowOk low) : ActR LT cl (csL odd low p far) lam_0 tI := by
  refine ⟨_, _, [odd, low], (.head _), rfl, caps_of rfl (List.forall_mem_cons.mpr ⟨(.head _), List.forall_mem_cons.mpr ⟨(.tail _ (.head _)), fun _ h => nomatch h⟩⟩), fun Q' E' _ k => ?_⟩
  exact ⟨rfl, odd, low, rfl, rfl, .inr ⟨⟨ho.k, hl.k, .inl ho.n⟩, k _ _ _ _ rfl .InvalidShare rfl⟩⟩
theorem a1 (hl : LowOk low) : ActR LT cl (csL odd low p far) lam_1 tI := by
  refine ⟨_, _, [low], (.tail _ (.head _)), rfl, caps_of rfl (List.forall_mem_cons.mpr ⟨(.tail _ (.head _)), fun _ h => nomatch h⟩), fun Q' E' _ k => ?_⟩
  exact ⟨rfl, .int 1, low, rfl, rfl, .inr ⟨⟨rfl, hl.k, .inr hl.bad⟩, k _ _ _ _ rfl .InvalidShare rfl⟩⟩
theorem a2 (ho : OddOk odd) : ActR LT cl (csL odd low p far) lam_2 tI := by
  refine ⟨_, _, [odd], (.tail _ (.tail _ (.head _))), rfl, caps_of rfl (List.forall_mem_cons.mpr ⟨(.head _), fun _ h => nomatch h⟩), fun Q' E' _ k => ?_⟩
  exact ⟨rfl, odd, .int 1, rfl, rfl, .inr ⟨⟨ho.k, rfl, .inl ho.n⟩, k _ _ _ _ rfl .InvalidShare rfl⟩⟩
theorem a3 (ho : OddOk odd) : ActR LT cl (csL odd low p far) lam_3 tI := by
  refine ⟨_, _, [sh p, odd], (.tail _ (.tail _ (.tail _ (.head _)))), rfl, caps_of rfl (List.forall_mem_cons.mpr ⟨(.tail _ (.tail _ (.head _))), List.forall_mem_cons.mpr ⟨(.head _), fun _ h => nomatch h⟩⟩), fun Q' E' _ k => ?_⟩
  exact ⟨⟨_, _, rfl⟩, .inl ⟨odd, ho.ty.choose, rfl, ho.ty.choose_spec.1, ho.ty.choose_spec.2⟩, wFn_dat [sh p, odd] rfl ⟨p, odd, rfl, .inr ⟨ho.toNoI, k _ _ _ _ rfl .InvalidShare rfl⟩⟩⟩
theorem a4 (ho : OddOk odd) : ActR LT cl (csL odd low p far) lam_4 tI := by
  refine ⟨_, _, [sh p, odd], (.tail _ (.tail _ (.tail _ (.tail _ (.head _))))), rfl, caps_of rfl (List.forall_mem_cons.mpr ⟨(.tail _ (.tail _ (.head _))), List.forall_mem_cons.mpr ⟨(.head _), fun _ h => nomatch h⟩⟩), fun Q' E' _ k => ?_⟩
  exact ⟨⟨_, _, rfl⟩, .inl ⟨odd, ho.ty.choose, rfl, ho.ty.choose_spec.1, ho.ty.choose_spec.2⟩, wFn_dat [sh p, odd] rfl ⟨p, odd, rfl, .inr ⟨ho.toNoI, k _ _ _ _ rfl .InvalidShare rfl⟩⟩⟩
theorem a5 (ho : OddOk odd) : ActR LT cl (csL odd low p far) lam_5 tI := by
  refine ⟨_, _, [sh p, odd], (.tail _ (.tail _ (.tail _ (.tail _ (.tail _ (.head _)))))), rfl, caps_of rfl (List.forall_mem_cons.mpr ⟨(.tail _ (.tail _ (.head _))), List.forall_mem_cons.mpr ⟨(.head _), fun _ h => nomatch h⟩⟩), fun Q' E' _ k => ?_⟩
  exact ⟨⟨_, _, rfl⟩, .inl ⟨odd, ho.ty.choose, rfl, ho.ty.choose_spec.1, ho.ty.choose_spec.2⟩, wFn_dat [sh p, odd] rfl ⟨p, odd, rfl, .inr ⟨ho.toNoI, k _ _ _ _ rfl .InvalidShare rfl⟩⟩⟩
theorem a6 (ho : OddOk odd) : ActR LT cl (csL odd low p far) lam_6 tI := by
  refine ⟨_, _, [odd, sh p], (.tail _ (.tail _ (.tail _ (.tail _ (.tail _ (.tail _ (.head _))))))), rfl, caps_of rfl (List.forall_mem_cons.mpr ⟨(.head _), List.forall_mem_cons.mpr ⟨(.tail _ (.tail _ (.head _))), fun _ h => nomatch h⟩⟩), fun Q' E' _ k => ?_⟩
  exact met_d (noP (by decide) _) ⟨rfl, wFn_dat [sh p, odd] rfl ⟨p, odd, rfl, .inr ⟨ho.toNoI, k _ _ _ _ rfl .InvalidShare rfl⟩⟩⟩
theorem a7  : ActR LT cl (csL odd low p far) lam_7 tI := by
  refine ⟨_, _, [sh p], (.tail _ (.tail _ (.tail _ (.tail _ (.tail _ (.tail _ (.tail _ (.head _)))))))), rfl, caps_of rfl (List.forall_mem_cons.mpr ⟨(.tail _ (.tail _ (.head _))), fun _ h => nomatch h⟩), fun Q' E' _ k => ?_⟩
  exact met_d (noP (by decide) _) ⟨rfl, wFn_dat [sh p, .int 0] rfl ⟨p, .int 0, rfl, .inr (.inl ⟨(0, 1), .inr ⟨rfl, rfl⟩, rfl, k _ _ _ _ rfl .InvalidShare rfl⟩)⟩⟩
theorem a8 (ho : OddOk odd) : ActR LT cl (csL odd low p far) lam_8 tI := by
  refine ⟨_, _, [odd, sh p], (.tail _ (.tail _ (.tail _ (.tail _ (.tail _ (.tail _ (.tail _ (.tail _ (.head _))))))))), rfl, caps_of rfl (List.forall_mem_cons.mpr ⟨(.head _), List.forall_mem_cons.mpr ⟨(.tail _ (.tail _ (.head _))), fun _ h => nomatch h⟩⟩), fun Q' E' _ k => ?_⟩
  exact met_d (noP (by decide) _) ⟨rfl, wFn_dat [sh p, odd] rfl ⟨p, odd, rfl, .inr (.inr ⟨ho.toNoI, k _ _ _ _ rfl .InvalidShare rfl⟩)⟩⟩
theorem a9 (hf : FarOk far) : ActR LT cl (csL odd low p far) lam_9 (tC far) := by
  refine ⟨_, _, [far, sh p], (.tail _ (.tail _ (.tail _ (.tail _ (.tail _ (.tail _ (.tail _ (.tail _ (.tail _ (.head _)))))))))), rfl, caps_of rfl (List.forall_mem_cons.mpr ⟨(.tail _ (.tail _ (.tail _ (.head _)))), List.forall_mem_cons.mpr ⟨(.tail _ (.tail _ (.head _))), fun _ h => nomatch h⟩⟩), fun Q' E' _ k => ?_⟩
  exact met_d (noP (by decide) _) ⟨rfl, wFn_dat [sh p, far] rfl ⟨p, far, rfl, .inr ⟨hf.k, hf.n, k _ _ _ _ rfl (.InvalidCount far) rfl⟩⟩⟩
theorem a10  : ActR LT cl (csL odd low p far) lam_10 tI := by
  refine ⟨_, _, [sh p], (.tail _ (.tail _ (.tail _ (.tail _ (.tail _ (.tail _ (.tail _ (.tail _ (.tail _ (.tail _ (.head _))))))))))), rfl, caps_of rfl (List.forall_mem_cons.mpr ⟨(.tail _ (.tail _ (.head _))), fun _ h => nomatch h⟩), fun Q' E' _ k => ?_⟩
  exact met_d (noP (by decide) _) ⟨rfl, .int 0, .int 5, rfl, rfl, .inl ⟨0, 5, rfl, rfl, by decide, (sm_of 5 (by decide)).bg, rfl, _, _, rfl, rfl, wFn_dat [sh p, sh (rat 0 5)] rfl ⟨p, sh (rat 0 5), rfl, .inr (.inl ⟨rat 0 5, .inl rfl, by decide, k _ _ _ _ rfl .InvalidShare rfl⟩)⟩⟩⟩
theorem lEnd (fp : FrB 1000 p) (ho : OddOk odd) (hl : LowOk low) (hf : FarOk far) (h : ∀ u8, DD.nx (S9 xs u2 (dd (pr p)) (dd (sh p)) (dd odd) (dd low) (dd far) u8 r)) : wSeq (L5 cl) (wSeq (L6 cl) (wSeq (L7 cl) (wSeq (L8 cl) (wSeq (L9 cl) (L10 cl))))) DD (S9 xs u2 (dd (pr p)) (dd (sh p)) (dd odd) (dd low) (dd far) u8 r) := by
  refine ⟨by simp, by simp, by simp, by simp, by simp, by simp, by simp, rfl, ?_⟩
  refine errs_at [(lam_2, tI), (lam_1, tI), (lam_0, tI), (lam_5, tI), (lam_4, tI), (lam_3, tI), (lam_8, tI), (lam_7, tI), (lam_6, tI), (lam_10, tI), (lam_9, tC far)] ?_ (by simp) ?_
  · exact (List.forall_mem_cons.mpr ⟨a2 (p := p) (low := low) (far := far) ho, List.forall_mem_cons.mpr ⟨a1 (odd := odd) (p := p) (far := far) hl, List.forall_mem_cons.mpr ⟨a0 (p := p) (far := far) ho hl, List.forall_mem_cons.mpr ⟨a5 (low := low) (far := far) ho, List.forall_mem_cons.mpr ⟨a4 (low := low) (far := far) ho, List.forall_mem_cons.mpr ⟨a3 (low := low) (far := far) ho, List.forall_mem_cons.mpr ⟨a8 (low := low) (far := far) ho, List.forall_mem_cons.mpr ⟨a7 (odd := odd) (low := low) (far := far), List.forall_mem_cons.mpr ⟨a6 (low := low) (far := far) ho, List.forall_mem_cons.mpr ⟨a10 (odd := odd) (low := low) (far := far), List.forall_mem_cons.mpr ⟨a9 (odd := odd) (low := low) hf, fun _ h => nomatch h⟩⟩⟩⟩⟩⟩⟩⟩⟩⟩⟩)
  · refine ⟨by simp, by simp, by decide, by decide, by decide, by simp, by simp, by simp, rfl, wFn_dat [.lst [tI, tI, tI, tI, tI, tI, tI, tI, tI, tI, tC far], .lst [tI, tI, tI, tI, tI, tI, tI, tI, tI, tI, tC far]] rfl ⟨_, rfl, ?_, brF rfl ?_⟩⟩
    · show (true && (plainD 5 tI && (plainD 5 tI && (plainD 5 tI && (plainD 5 tI && (plainD 5 tI && (plainD 5 tI && (plainD 5 tI && (plainD 5 tI && (plainD 5 tI && (plainD 5 tI && ((true && (true && (plainD 4 far && true))) && true)))))))))))) = true
      rw [hf.p]; rfl
    · exact ⟨rfl, wFn_dat [sh p] rfl ⟨p, rfl, rfl, wFn_dat [pr p, pr p] rfl ⟨_, rfl, rfl, brF rfl (h _)⟩⟩⟩
end
theorem pu_law (cl : List (Str × Addr)) : Rd sp_law 9 (LW cl) := by
  rintro ws μ Q E ⟨xs, rfl, rfl, hq⟩
  refine ⟨rfl, wFn_cells xs rfl fun b ok => ?_⟩
  refine ⟨by decide, ⟨?_⟩⟩
  refine wForL_ind (fun rest st => ∃ u2 u3 u4 u5 u6 u7 u8 b r, st = S9 xs u2 u3 u4 u5 u6 u7 u8 (b :: r) ∧ BagOk b) ?_ ?_ _ _ ⟨_, _, _, _, _, _, _, b, [], rfl, ok⟩
  · rintro st ⟨u2, u3, u4, u5, u6, u7, u8, b, r, rfl, ok⟩
    have bnd : ∀ (x : Int), x.natAbs ≤ 1 → x.natAbs ^ 1000 < bG := fun x hx => by
      refine Nat.lt_of_le_of_lt (Nat.pow_le_pow_left hx 1000) ?_
      rw [Nat.one_pow]
      exact Nat.lt_of_lt_of_le (by decide) (show 2 ^ 1 ≤ bG from Nat.pow_le_pow_right (by decide) (by decide))
    have e1 : pr (fPow (rat (-1) 1) 1000) = .tup [.int 1, .int 1] := by
      rw [show rat (-1) 1 = (-1, 1) by decide]
      unfold fPow pr
      rw [show (1000 : Nat) = 2 * 500 from rfl, Int.pow_mul, show (((-1, 1) : Int × Int).1) ^ 2 = 1 by decide, Int.one_pow, show ((-1, 1) : Int × Int).2 ^ (2 * 500) = 1 from Int.one_pow]
    have e2 : pr (fPow (rat 0 1) 1000) = .tup [.int 0, .int 1] := by
      rw [show rat 0 1 = (0, 1) by decide]
      unfold fPow pr
      rw [show ((0, 1) : Int × Int).1 ^ 1000 = 0 from Int.zero_pow (by decide), show ((0, 1) : Int × Int).2 ^ 1000 = 1 from Int.one_pow]
    refine ⟨rfl, .int (-1), .int 1, rfl, rfl, .inl ⟨-1, 1, rfl, rfl, by decide, (sm_of 5 (by decide)).bg, rfl, _, _, rfl, ?_⟩⟩
    refine met_d (noP (by decide) _) ⟨rfl, wFn_dat [sh (rat (-1) 1), .int 1000] rfl ⟨rat (-1) 1, .int 1000, rfl, .inl ⟨1000, rfl, by decide, fr_rat (by decide), bnd _ (by decide), bnd _ (by decide), ?_⟩⟩⟩
    refine ⟨rfl, wFn_dat [sh (fPow (rat (-1) 1) 1000)] rfl ⟨_, rfl, ?_⟩⟩
    refine ⟨rfl, .int 0, .int 1, rfl, rfl, .inl ⟨0, 1, rfl, rfl, by decide, (sm_of 5 (by decide)).bg, rfl, _, _, rfl, ?_⟩⟩
    refine met_d (noP (by decide) _) ⟨rfl, wFn_dat [sh (rat 0 1), .int 1000] rfl ⟨rat 0 1, .int 1000, rfl, .inl ⟨1000, rfl, by decide, fr_rat (by decide), bnd _ (by decide), bnd _ (by decide), ?_⟩⟩⟩
    refine ⟨rfl, wFn_dat [sh (fPow (rat 0 1) 1000)] rfl ⟨_, rfl, ?_⟩⟩
    rw [e1, e2]
    exact ⟨by simp, by simp, by simp, by simp, rfl, wFn_dat [.lst [.tup [.int 1, .int 1], .tup [.int 0, .int 1]], .lst [.tup [.int 1, .int 1], .tup [.int 0, .int 1]]] rfl ⟨_, rfl, by decide, hq _⟩⟩
  · rintro x rest st ⟨u2, u3, u4, u5, u6, u7, u8, b, r, rfl, ok⟩ K hK
    refine l1 (cl := cl) (u2 := some (.d x)) ok fun p b1 fp ok1 => ?_
    refine l2 (cl := cl) fp ok1 fun odd b2 ho ok2 => ?_
    refine l3 (cl := cl) ok2 fun low b3 hl ok3 => ?_
    refine l4 (cl := cl) ok3 fun far b4 hf ok4 => ?_
    refine lEnd (cl := cl) (DD := ⟨_, _, _, _, _⟩) fp ho hl hf fun u8 => ?_
    exact hK _ ⟨_, _, _, _, _, _, _, _, _, rfl, ok4⟩
theorem law_hc (xs : List Int) (h : xs.length ≤ 63) : sp_law [.scr xs] [] (fun w _ => w = .d (.bl true)) (fun _ _ => False) := ⟨xs, rfl, rfl, fun _ => rfl⟩

end
def D_is_integer : He.DefD := ⟨("is_integer", none), "is_integer", "is_integer", defArgs s_is_integer, defBody s_is_integer, defScope s_is_integer, [], []⟩
def D_is_within : He.DefD := ⟨("is_within", none), "is_within", "is_within", defArgs s_is_within, defBody s_is_within, defScope s_is_within, [], []⟩
def D_divisor : He.DefD := ⟨("divisor", none), "divisor", "divisor", defArgs s_divisor, defBody s_divisor, defScope s_divisor, [], []⟩
def D_ratio : He.DefD := ⟨("ratio", none), "ratio", "ratio", defArgs s_ratio, defBody s_ratio, defScope s_ratio, [], []⟩
def D_plus : He.DefD := ⟨("plus", none), "plus", "plus", defArgs s_plus, defBody s_plus, defScope s_plus, [], []⟩
def D_minus : He.DefD := ⟨("minus", none), "minus", "minus", defArgs s_minus, defBody s_minus, defScope s_minus, [], []⟩
def D_product : He.DefD := ⟨("product", none), "product", "product", defArgs s_product, defBody s_product, defScope s_product, [], []⟩
def D_quotient : He.DefD := ⟨("quotient", none), "quotient", "quotient", defArgs s_quotient, defBody s_quotient, defScope s_quotient, [], []⟩
def D_raised : He.DefD := ⟨("raised", none), "raised", "raised", defArgs s_raised, defBody s_raised, defScope s_raised, [], []⟩
def D_is_less : He.DefD := ⟨("is_less", none), "is_less", "is_less", defArgs s_is_less, defBody s_is_less, defScope s_is_less, [], []⟩
def D_pair_of : He.DefD := ⟨("pair_of", none), "pair_of", "pair_of", defArgs s_pair_of, defBody s_pair_of, defScope s_pair_of, [], []⟩
def D_need_pair : He.DefD := ⟨("need_pair", none), "need_pair", "need_pair", defArgs s_need_pair, defBody s_need_pair, defScope s_need_pair, [], []⟩
def D_share_of : He.DefD := ⟨("share_of", none), "share_of", "share_of", defArgs s_share_of, defBody s_share_of, defScope s_share_of, [], []⟩
def D_Share___init__ : He.DefD := ⟨("Share", some "__init__"), "__init__", "Share.__init__", defArgs s_Share___init__, defBody s_Share___init__, defScope s_Share___init__, [.int 1], []⟩
def P_Share_top : PrF := ⟨"Share", "top", "Share.top", s_Share_top, false⟩
def P_Share_bottom : PrF := ⟨"Share", "bottom", "Share.bottom", s_Share_bottom, false⟩
def D_Share_is_below : He.DefD := ⟨("Share", some "is_below"), "is_below", "Share.is_below", defArgs s_Share_is_below, defBody s_Share_is_below, defScope s_Share_is_below, [], []⟩
def D_Share_power : He.DefD := ⟨("Share", some "power"), "power", "Share.power", defArgs s_Share_power, defBody s_Share_power, defScope s_Share_power, [], []⟩
def D_Share___add__ : He.DefD := ⟨("Share", some "__add__"), "__add__", "Share.__add__", defArgs s_Share___add__, defBody s_Share___add__, defScope s_Share___add__, [], []⟩
def D_Share___sub__ : He.DefD := ⟨("Share", some "__sub__"), "__sub__", "Share.__sub__", defArgs s_Share___sub__, defBody s_Share___sub__, defScope s_Share___sub__, [], []⟩
def D_Share___mul__ : He.DefD := ⟨("Share", some "__mul__"), "__mul__", "Share.__mul__", defArgs s_Share___mul__, defBody s_Share___mul__, defScope s_Share___mul__, [], []⟩
def D_Share_divided_by : He.DefD := ⟨("Share", some "divided_by"), "divided_by", "Share.divided_by", defArgs s_Share_divided_by, defBody s_Share_divided_by, defScope s_Share_divided_by, [], []⟩
def D__law_cells : He.DefD := ⟨("_law_cells", none), "_law_cells", "_law_cells", defArgs s__law_cells, defBody s__law_cells, defScope s__law_cells, [], []⟩
def D__law_draw : He.DefD := ⟨("_law_draw", none), "_law_draw", "_law_draw", defArgs s__law_draw, defBody s__law_draw, defScope s__law_draw, [], []⟩
def D__law_any : He.DefD := ⟨("_law_any", none), "_law_any", "_law_any", defArgs s__law_any, defBody s__law_any, defScope s__law_any, [], []⟩
def D__law_like : He.DefD := ⟨("_law_like", none), "_law_like", "_law_like", defArgs s__law_like, defBody s__law_like, defScope s__law_like, [], []⟩
def D__law_field : He.DefD := ⟨("_law_field", none), "_law_field", "_law_field", defArgs s__law_field, defBody s__law_field, defScope s__law_field, [], []⟩
def D__law_try : He.DefD := ⟨("_law_try", none), "_law_try", "_law_try", defArgs s__law_try, defBody s__law_try, defScope s__law_try, [], []⟩
def D__law_errors : He.DefD := ⟨("_law_errors", none), "_law_errors", "_law_errors", defArgs s__law_errors, defBody s__law_errors, defScope s__law_errors, [], []⟩
def D__law_ratio : He.DefD := ⟨("_law_ratio", none), "_law_ratio", "_law_ratio", defArgs s__law_ratio, defBody s__law_ratio, defScope s__law_ratio, [], []⟩
def D__law_pair : He.DefD := ⟨("_law_pair", none), "_law_pair", "_law_pair", defArgs s__law_pair, defBody s__law_pair, defScope s__law_pair, [], []⟩
def D__law_share : He.DefD := ⟨("_law_share", none), "_law_share", "_law_share", defArgs s__law_share, defBody s__law_share, defScope s__law_share, [], []⟩
def D__law_some_pair : He.DefD := ⟨("_law_some_pair", none), "_law_some_pair", "_law_some_pair", defArgs s__law_some_pair, defBody s__law_some_pair, defScope s__law_some_pair, [], []⟩
def D_law : He.DefD := ⟨("law", none), "law", "law", defArgs s_law, defBody s_law, defScope s_law, [], []⟩
def P_InvalidCount___init__ : PrF := ⟨"InvalidCount", "__init__", "InvalidCount.__init__", s_InvalidCount___init__, true⟩
def P_InvalidShare___init__ : PrF := ⟨"InvalidShare", "__init__", "InvalidShare.__init__", s_InvalidShare___init__, true⟩
def fn : List He.DefD := [D_is_integer, D_is_within, D_divisor, D_ratio, D_plus, D_minus, D_product, D_quotient, D_raised, D_is_less, D_pair_of, D_need_pair, D_share_of, D_Share___init__, D_Share_is_below, D_Share_power, D_Share___add__, D_Share___sub__, D_Share___mul__, D_Share_divided_by, D__law_cells, D__law_draw, D__law_any, D__law_like, D__law_field, D__law_try, D__law_errors, D__law_ratio, D__law_pair, D__law_share, D__law_some_pair, D_law]
def prs : List PrF := [P_Share_top, P_Share_bottom, P_InvalidCount___init__, P_InvalidShare___init__]
def fa_ : List He.Fa := [.cls (PySem.Str.ofString "Share"), .glo (PySem.Str.ofString "is_integer"), .glo (PySem.Str.ofString "is_within"), .glo (PySem.Str.ofString "divisor"), .glo (PySem.Str.ofString "ratio"), .glo (PySem.Str.ofString "plus"), .glo (PySem.Str.ofString "minus"), .glo (PySem.Str.ofString "product"), .glo (PySem.Str.ofString "quotient"), .glo (PySem.Str.ofString "raised"), .glo (PySem.Str.ofString "is_less"), .glo (PySem.Str.ofString "pair_of"), .glo (PySem.Str.ofString "need_pair"), .glo (PySem.Str.ofString "share_of"), .mkr (PySem.Str.ofString "Share"), .meth (PySem.Str.ofString "Share") (PySem.Str.ofString "is_below"), .meth (PySem.Str.ofString "Share") (PySem.Str.ofString "power"), .meth (PySem.Str.ofString "Share") (PySem.Str.ofString "__add__"), .meth (PySem.Str.ofString "Share") (PySem.Str.ofString "__sub__"), .meth (PySem.Str.ofString "Share") (PySem.Str.ofString "__mul__"), .meth (PySem.Str.ofString "Share") (PySem.Str.ofString "divided_by"), .glo (PySem.Str.ofString "_law_cells"), .glo (PySem.Str.ofString "_law_draw"), .glo (PySem.Str.ofString "_law_any"), .glo (PySem.Str.ofString "_law_like"), .glo (PySem.Str.ofString "_law_field"), .glo (PySem.Str.ofString "_law_try"), .glo (PySem.Str.ofString "_law_errors"), .glo (PySem.Str.ofString "_law_ratio"), .glo (PySem.Str.ofString "_law_pair"), .glo (PySem.Str.ofString "_law_share"), .glo (PySem.Str.ofString "_law_some_pair"), .glo (PySem.Str.ofString "law"), .free (PySem.Str.ofString "super"), .glo (PySem.Str.ofString "InvalidCount"), .free (PySem.Str.ofString "super"), .glo (PySem.Str.ofString "InvalidShare"), .glo (PySem.Str.ofString "ScrawlError"), .glo (PySem.Str.ofString "Missing"), .glo (PySem.Str.ofString "NothingLeft")] ++ [.glo (PySem.Str.ofString "law"), .glo (PySem.Str.ofString "Share"), .noat (PySem.Str.ofString "Share") (PySem.Str.ofString "pair"), .int (PySem.Str.ofString "MOST_COUNT") 1000, .free (PySem.Str.ofString "isinstance"), .free (PySem.Str.ofString "bool"), .free (PySem.Str.ofString "int"), .free (PySem.Str.ofString "abs"), .free (PySem.Str.ofString "list"), .free (PySem.Str.ofString "len"), .free (PySem.Str.ofString "tuple"), .free (PySem.Str.ofString "all"), .free (PySem.Str.ofString "zip"), .free (PySem.Str.ofString "str"), .free (PySem.Str.ofString "range"), .free (PySem.Str.ofString "super")]
def tf : List He.Defn := [("law", none)]
def exB (K : PySem.W.Frag) : Bool := [Exi.xcB K "InvalidCount" "InvalidCount.__init__" 0 Rw.prog.main.file [("given" : Str)], Exi.xcB K "InvalidShare" "InvalidShare.__init__" 0 Rw.prog.main.file [], xftB K xfT, catB K excT [("ScrawlError" : Str), ("Missing" : Str), ("NothingLeft" : Str)], tabUB K ("law", none), ownTB K "Share" Operator.Add ["bool", "NoneType", "str", "tuple", "list", "int"], ownBB K "Share" Operator.Add "__add__", ownRB K "Share" Operator.Add, ownTB K "Share" Operator.Mult ["bool", "NoneType", "str", "tuple", "list", "int"], ownBB K "Share" Operator.Mult "__mul__", ownRB K "Share" Operator.Mult, ownTB K "Share" Operator.Sub ["bool", "NoneType", "str", "tuple", "list", "int"], ownBB K "Share" Operator.Sub "__sub__", ownRB K "Share" Operator.Sub, tblB K [((.own "Share", .own "Share"), true), ((.ty "bool", .own "Share"), false), ((.ty "NoneType", .own "Share"), false), ((.ty "str", .own "Share"), false), ((.ty "tuple", .own "Share"), false), ((.ty "list", .own "Share"), false), ((.ty "int", .own "Share"), false)]].all id
theorem gs_of [TheW] {K : PySem.W.Frag} {mg : Str → Option Value} {w : World} {h : Heap} (X : K.In h) (G : h.Ns mainGlobals mg) (c : SaysP fa_ fn prs tf exB w h K) : Gs Rw.prog K mg where
  d_is_integer := df_of X G c.x.t.d (i := 0) (j := 1) rfl rfl
  d_is_within := df_of X G c.x.t.d (i := 1) (j := 2) rfl rfl
  d_divisor := df_of X G c.x.t.d (i := 2) (j := 3) rfl rfl
  d_ratio := df_of X G c.x.t.d (i := 3) (j := 4) rfl rfl
  d_plus := df_of X G c.x.t.d (i := 4) (j := 5) rfl rfl
  d_minus := df_of X G c.x.t.d (i := 5) (j := 6) rfl rfl
  d_product := df_of X G c.x.t.d (i := 6) (j := 7) rfl rfl
  d_quotient := df_of X G c.x.t.d (i := 7) (j := 8) rfl rfl
  d_raised := df_of X G c.x.t.d (i := 8) (j := 9) rfl rfl
  d_is_less := df_of X G c.x.t.d (i := 9) (j := 10) rfl rfl
  d_pair_of := df_of X G c.x.t.d (i := 10) (j := 11) rfl rfl
  d_need_pair := df_of X G c.x.t.d (i := 11) (j := 12) rfl rfl
  d_share_of := df_of X G c.x.t.d (i := 12) (j := 13) rfl rfl
  d_Share___init__ := dfI_of c.x.t.d (i := 13) (j := 14) (dfl := [.int 1]) rfl rfl
  d_Share_top := dfP_of c (i := 0) (j := 0) rfl rfl
  d_Share_bottom := dfP_of c (i := 1) (j := 0) rfl rfl
  d_Share_is_below := dfM_of c.x.t.d (i := 14) (j := 0) (l := 15) rfl rfl rfl
  d_Share_power := dfM_of c.x.t.d (i := 15) (j := 0) (l := 16) rfl rfl rfl
  d_Share___add__ := dfM_of c.x.t.d (i := 16) (j := 0) (l := 17) rfl rfl rfl
  d_Share___sub__ := dfM_of c.x.t.d (i := 17) (j := 0) (l := 18) rfl rfl rfl
  d_Share___mul__ := dfM_of c.x.t.d (i := 18) (j := 0) (l := 19) rfl rfl rfl
  d_Share_divided_by := dfM_of c.x.t.d (i := 19) (j := 0) (l := 20) rfl rfl rfl
  d__law_cells := df_of X G c.x.t.d (i := 20) (j := 21) rfl rfl
  d__law_draw := df_of X G c.x.t.d (i := 21) (j := 22) rfl rfl
  d__law_any := df_of X G c.x.t.d (i := 22) (j := 23) rfl rfl
  d__law_like := df_of X G c.x.t.d (i := 23) (j := 24) rfl rfl
  d__law_field := df_of X G c.x.t.d (i := 24) (j := 25) rfl rfl
  d__law_try := df_of X G c.x.t.d (i := 25) (j := 26) rfl rfl
  d__law_errors := df_of X G c.x.t.d (i := 26) (j := 27) rfl rfl
  d__law_ratio := df_of X G c.x.t.d (i := 27) (j := 28) rfl rfl
  d__law_pair := df_of X G c.x.t.d (i := 28) (j := 29) rfl rfl
  d__law_share := df_of X G c.x.t.d (i := 29) (j := 30) rfl rfl
  d__law_some_pair := df_of X G c.x.t.d (i := 30) (j := 31) rfl rfl
  d_law := df_of X G c.x.t.d (i := 31) (j := 32) rfl rfl
  x_InvalidCount := ⟨Exi.xc1_of (ex_at c.more 0 rfl) (c.xi 2 rfl) (He.free_ok X G (c.x.t.d.fact 33 rfl)) (by decide +kernel) rfl ⟨⟨_, _, _, _, _, rfl, _, fun _ _ _ _ => rfl⟩, fun _ _ _ _ => rfl, fun _ _ _ _ => rfl⟩ ⟨fun _ _ _ _ => rfl⟩ ⟨fun _ _ _ _ => rfl⟩ (fun _ _ _ _ _ _ _ _ _ => rfl) ⟨_, rfl, rfl⟩ (by decide +kernel) (by decide +kernel) (by decide +kernel) (by decide +kernel) rfl rfl rfl (by decide +kernel) (by decide) (by decide), He.glo_ok X G (c.x.t.d.fact 34 rfl)⟩
  x_InvalidShare := ⟨Exi.xc0_of (ex_at c.more 1 rfl) (c.xi 3 rfl) (He.free_ok X G (c.x.t.d.fact 35 rfl)) (by decide +kernel) rfl ⟨⟨_, _, _, _, _, rfl, _, fun _ _ _ _ => rfl⟩, fun _ _ _ _ => rfl, fun _ _ _ _ => rfl⟩ ⟨fun _ _ _ _ => rfl⟩ (fun _ _ _ _ _ _ _ _ => rfl) ⟨_, rfl, rfl⟩ (by decide +kernel) (by decide +kernel) (by decide +kernel) rfl rfl rfl (by decide +kernel), He.glo_ok X G (c.x.t.d.fact 36 rfl)⟩
  g_ScrawlError := He.glo_ok X G (c.x.t.d.fact 37 rfl)
  g_Missing := He.glo_ok X G (c.x.t.d.fact 38 rfl)
  g_NothingLeft := He.glo_ok X G (c.x.t.d.fact 39 rfl)
  xf := xft_ok (ex_at c.more 2 rfl)
  tb := cat_ok (cs := [("ScrawlError" : Str), ("Missing" : Str), ("NothingLeft" : Str)]) (ex_at c.more 3 rfl)
  hdl := c.x.hd _ (.head _)
  uni := (ex_at c.more 4 rfl)
  gl_law := He.glo_ok X G (c.x.t.d.fact 40 rfl)
  g_Share := He.glo_ok X G (c.x.t.d.fact 41 rfl)
  cl_Share := He.cls_ok (c.x.t.d.fact 0 rfl)
  na_Share_pair := He.noat_ok (c.x.t.d.fact 42 rfl)
  ot_Share___add__ := ownT_ok (ex_at c.more 5 rfl)
  ob_Share___add__ := ownB_ok (ex_at c.more 6 rfl)
  or_Share___add__ := ownR_ok (ex_at c.more 7 rfl)
  ot_Share___mul__ := ownT_ok (ex_at c.more 8 rfl)
  ob_Share___mul__ := ownB_ok (ex_at c.more 9 rfl)
  or_Share___mul__ := ownR_ok (ex_at c.more 10 rfl)
  ot_Share___sub__ := ownT_ok (ex_at c.more 11 rfl)
  ob_Share___sub__ := ownB_ok (ex_at c.more 12 rfl)
  or_Share___sub__ := ownR_ok (ex_at c.more 13 rfl)
  c_MOST_COUNT := He.int_ok X G (c.x.t.d.fact 43 rfl)
  fr_isinstance := He.free_ok X G (c.x.t.d.fact 44 rfl)
  fr_bool := He.free_ok X G (c.x.t.d.fact 45 rfl)
  fr_int := He.free_ok X G (c.x.t.d.fact 46 rfl)
  fr_abs := He.free_ok X G (c.x.t.d.fact 47 rfl)
  fr_list := He.free_ok X G (c.x.t.d.fact 48 rfl)
  fr_len := He.free_ok X G (c.x.t.d.fact 49 rfl)
  fr_tuple := He.free_ok X G (c.x.t.d.fact 50 rfl)
  fr_all := He.free_ok X G (c.x.t.d.fact 51 rfl)
  fr_zip := He.free_ok X G (c.x.t.d.fact 52 rfl)
  fr_str := He.free_ok X G (c.x.t.d.fact 53 rfl)
  fr_range := He.free_ok X G (c.x.t.d.fact 54 rfl)
  fr_super := He.free_ok X G (c.x.t.d.fact 55 rfl)
  ans := ansW_ok (ex_at c.more 14 rfl)
abbrev Ro : PySem.W.OpenRow := PySem.W.OpenLaw.row Rw
def ob (s : PySem.W.SharedT) : AlP := obsP 6 fa_ fn prs tf exB (HandSHeadRun.getT s)
theorem ob_eq (s : PySem.W.SharedT) : ob s = (hookP 6 fa_ fn prs tf exB).obs s.abs := obsP_eq (HandSHeadRun.getT_eq s)
def names : List PySem.Str := [(PySem.Str.ofString "ScrawlError"), (PySem.Str.ofString "InvalidShare"), (PySem.Str.ofString "InvalidCount"), (PySem.Str.ofString "ParseError"), (PySem.Str.ofString "Missing"), (PySem.Str.ofString "NothingLeft"), (PySem.Str.ofString "is_integer"), (PySem.Str.ofString "is_within"), (PySem.Str.ofString "divisor"), (PySem.Str.ofString "ratio"), (PySem.Str.ofString "plus"), (PySem.Str.ofString "minus"), (PySem.Str.ofString "product"), (PySem.Str.ofString "quotient"), (PySem.Str.ofString "raised"), (PySem.Str.ofString "is_less"), (PySem.Str.ofString "MOST_COUNT"), (PySem.Str.ofString "DIGITS"), (PySem.Str.ofString "pair_of"), (PySem.Str.ofString "need_pair"), (PySem.Str.ofString "share_of"), (PySem.Str.ofString "number_in"), (PySem.Str.ofString "Share"), (PySem.Str.ofString "_law_cells"), (PySem.Str.ofString "_law_draw"), (PySem.Str.ofString "_law_any"), (PySem.Str.ofString "_law_like"), (PySem.Str.ofString "_law_field"), (PySem.Str.ofString "_law_try"), (PySem.Str.ofString "_law_errors"), (PySem.Str.ofString "_law_ratio"), (PySem.Str.ofString "_law_pair"), (PySem.Str.ofString "_law_share"), (PySem.Str.ofString "_law_some_pair")]
theorem run (w : World) : HandSHeadRun.RunEq Ro (PySem.W.view Ro.prog [38]) (hookP 6 fa_ fn prs tf exB) ob 5000 names w := by
  intro os
  kernel_rfl
section
variable [TheW] {P : Program} {w : World} {K : PySem.W.Frag} {mg : Str → Option Value} {base : Heap}
theorem ok_is_integer (G : Gs P K mg) : FnD P w K mg base "is_integer" 1 1 sp_is_integer := (fnD_of G.d_is_integer sc_is_integer (bd_is_integer G ) (fun ws μ Q E _ h => pu_is_integer ws μ Q E h) (fun _ _ _ _ _ _ us hl => match us, hl with | [_], _ => rfl))
theorem ok_is_within (G : Gs P K mg) : FnD P w K mg base "is_within" 2 3 sp_is_within := (fnD_of G.d_is_within sc_is_within (bd_is_within G (by decide) (ok_is_integer G)) (fun ws μ Q E _ h => pu_is_within ws μ Q E h) (fun _ _ _ _ _ _ us hl => match us, hl with | [_, _, _], _ => rfl))
theorem ok_divisor (G : Gs P K mg) : FnD P w K mg base "divisor" 1 2 sp_divisor := (fnD_of G.d_divisor sc_divisor (bd_divisor G ) (fun ws μ Q E _ h => pu_divisor ws μ Q E h) (fun _ _ _ _ _ _ us hl => match us, hl with | [_, _], _ => rfl))
theorem ok_ratio (G : Gs P K mg) : FnD P w K mg base "ratio" 2 2 sp_ratio := (fnD_of G.d_ratio sc_ratio (bd_ratio G (by decide) (ok_divisor G)) (fun ws μ Q E _ h => pu_ratio ws μ Q E h) (fun _ _ _ _ _ _ us hl => match us, hl with | [_, _], _ => rfl))
theorem ok_plus (G : Gs P K mg) : FnD P w K mg base "plus" 3 2 sp_plus := (fnD_of G.d_plus sc_plus (bd_plus G (by decide) (ok_ratio G)) (fun ws μ Q E _ h => pu_plus ws μ Q E h) (fun _ _ _ _ _ _ us hl => match us, hl with | [_, _], _ => rfl))
theorem ok_minus (G : Gs P K mg) : FnD P w K mg base "minus" 3 2 sp_minus := (fnD_of G.d_minus sc_minus (bd_minus G (by decide) (ok_ratio G)) (fun ws μ Q E _ h => pu_minus ws μ Q E h) (fun _ _ _ _ _ _ us hl => match us, hl with | [_, _], _ => rfl))
theorem ok_product (G : Gs P K mg) : FnD P w K mg base "product" 3 2 sp_product := (fnD_of G.d_product sc_product (bd_product G (by decide) (ok_ratio G)) (fun ws μ Q E _ h => pu_product ws μ Q E h) (fun _ _ _ _ _ _ us hl => match us, hl with | [_, _], _ => rfl))
theorem ok_quotient (G : Gs P K mg) : FnD P w K mg base "quotient" 3 2 sp_quotient := (fnD_of G.d_quotient sc_quotient (bd_quotient G (by decide) (ok_ratio G)) (fun ws μ Q E _ h => pu_quotient ws μ Q E h) (fun _ _ _ _ _ _ us hl => match us, hl with | [_, _], _ => rfl))
theorem ok_raised (G : Gs P K mg) : FnD P w K mg base "raised" 1 2 sp_raised := (fnD_of G.d_raised sc_raised (bd_raised G ) (fun ws μ Q E _ h => pu_raised ws μ Q E h) (fun _ _ _ _ _ _ us hl => match us, hl with | [_, _], _ => rfl))
theorem ok_is_less (G : Gs P K mg) : FnD P w K mg base "is_less" 1 2 sp_is_less := (fnD_of G.d_is_less sc_is_less (bd_is_less G ) (fun ws μ Q E _ h => pu_is_less ws μ Q E h) (fun _ _ _ _ _ _ us hl => match us, hl with | [_, _], _ => rfl))
theorem pr_Share_bottom (G : Gs P K mg) : PrD P w K mg base "Share" "bottom" 1 sp_Share_bottom := (prD_of G.d_Share_bottom sc_Share_bottom rfl (bd_Share_bottom G ) (fun ws μ Q E _ h => pu_Share_bottom ws μ Q E h) (fun _ _ _ _ _ _ us hl => match us, hl with | [_], _ => rfl))
theorem pr_Share_top (G : Gs P K mg) : PrD P w K mg base "Share" "top" 1 sp_Share_top := (prD_of G.d_Share_top sc_Share_top rfl (bd_Share_top G ) (fun ws μ Q E _ h => pu_Share_top ws μ Q E h) (fun _ _ _ _ _ _ us hl => match us, hl with | [_], _ => rfl))
theorem ok_pair_of (G : Gs P K mg) : FnD P w K mg base "pair_of" 3 1 sp_pair_of := (fnD_of G.d_pair_of sc_pair_of (bd_pair_of G (by decide) (pr_Share_bottom G) (by decide) (pr_Share_top G) (by decide) (ok_is_integer G)) (fun ws μ Q E _ h => pu_pair_of ws μ Q E h) (fun _ _ _ _ _ _ us hl => match us, hl with | [_], _ => rfl))
theorem ok_need_pair (G : Gs P K mg) : FnD P w K mg base "need_pair" 4 1 sp_need_pair := (fnD_of G.d_need_pair sc_need_pair (bd_need_pair G (by decide) G.x_InvalidShare (by decide) (ok_pair_of G)) (fun ws μ Q E _ h => pu_need_pair ws μ Q E h) (fun _ _ _ _ _ _ us hl => match us, hl with | [_], _ => rfl))
theorem mk1_Share (G : Gs P K mg) : MkD P w K mg base "Share" 3 3 [D.int 1] sp_Share___init__ := mkD_dfl 2 0 [D.int 1] G.d_Share___init__ (by simp) (fun _ => (RepL.cons rfl RepL.nil)) rfl G.g_Share sc_Share___init__ (bd_Share___init__ G (by decide) G.x_InvalidShare (by decide) (ok_is_integer G) (by decide) (ok_ratio G)) (fun ws μ Q E _ h => pu_Share___init__ ws μ Q E h) (fun _ _ _ _ _ _ _ us its hl h2 => match us, its, hl, h2 with | [_, _], [_], _, _ => ⟨_, rfl, rfl⟩)
theorem mk2_Share (G : Gs P K mg) : MkD P w K mg base "Share" 3 3 [] sp_Share___init__ := mkD_dfl 3 1 [] G.d_Share___init__ (by simp) (fun _ => RepL.nil) rfl G.g_Share sc_Share___init__ (bd_Share___init__ G (by decide) G.x_InvalidShare (by decide) (ok_is_integer G) (by decide) (ok_ratio G)) (fun ws μ Q E _ h => pu_Share___init__ ws μ Q E h) (fun _ _ _ _ _ _ _ us its hl h2 => match us, its, hl, h2 with | [_, _, _], [_], _, _ => ⟨_, rfl, rfl⟩)
theorem ok_share_of (G : Gs P K mg) : FnD P w K mg base "share_of" 5 1 sp_share_of := (fnD_of G.d_share_of sc_share_of (bd_share_of G (by decide) (mk2_Share G)) (fun ws μ Q E _ h => pu_share_of ws μ Q E h) (fun _ _ _ _ _ _ us hl => match us, hl with | [_], _ => rfl))
theorem mt_Share_is_below (G : Gs P K mg) : MtD P w K mg base "Share" "is_below" 5 2 sp_Share_is_below := (mtD_of G.d_Share_is_below sc_Share_is_below (bd_Share_is_below G (by decide) (ok_is_less G) (by decide) (ok_need_pair G)) (fun ws μ Q E _ h => pu_Share_is_below ws μ Q E h) (fun _ _ _ _ _ _ us hl => match us, hl with | [_, _], _ => rfl))
theorem mt_Share_power (G : Gs P K mg) : MtD P w K mg base "Share" "power" 6 2 sp_Share_power := (mtD_of G.d_Share_power sc_Share_power (bd_Share_power G (by decide) G.x_InvalidCount (by decide) (ok_is_within G) (by decide) (ok_raised G) (by decide) (ok_share_of G)) (fun ws μ Q E _ h => pu_Share_power ws μ Q E h) (fun _ _ _ _ _ _ us hl => match us, hl with | [_, _], _ => rfl))
theorem op_Share___add__ (G : Gs P K mg) : OpD P w K mg base "Share" Operator.Add 6 sp_Share___add__ := opD_of G.d_Share___add__ sc_Share___add__ rfl (bd_Share___add__ G (by decide) (ok_need_pair G) (by decide) (ok_plus G) (by decide) (ok_share_of G)) (fun ws μ Q E _ h => pu_Share___add__ ws μ Q E h) G.ob_Share___add__ G.or_Share___add__ (fun _ _ _ _ _ _ us hl => match us, hl with | [_, _], _ => rfl)
theorem op_Share___sub__ (G : Gs P K mg) : OpD P w K mg base "Share" Operator.Sub 6 sp_Share___sub__ := opD_of G.d_Share___sub__ sc_Share___sub__ rfl (bd_Share___sub__ G (by decide) (ok_minus G) (by decide) (ok_need_pair G) (by decide) (ok_share_of G)) (fun ws μ Q E _ h => pu_Share___sub__ ws μ Q E h) G.ob_Share___sub__ G.or_Share___sub__ (fun _ _ _ _ _ _ us hl => match us, hl with | [_, _], _ => rfl)
theorem op_Share___mul__ (G : Gs P K mg) : OpD P w K mg base "Share" Operator.Mult 6 sp_Share___mul__ := opD_of G.d_Share___mul__ sc_Share___mul__ rfl (bd_Share___mul__ G (by decide) (ok_need_pair G) (by decide) (ok_product G) (by decide) (ok_share_of G)) (fun ws μ Q E _ h => pu_Share___mul__ ws μ Q E h) G.ob_Share___mul__ G.or_Share___mul__ (fun _ _ _ _ _ _ us hl => match us, hl with | [_, _], _ => rfl)
theorem mt_Share_divided_by (G : Gs P K mg) : MtD P w K mg base "Share" "divided_by" 6 2 sp_Share_divided_by := (mtD_of G.d_Share_divided_by sc_Share_divided_by (bd_Share_divided_by G (by decide) G.x_InvalidShare (by decide) (ok_need_pair G) (by decide) (ok_quotient G) (by decide) (ok_share_of G)) (fun ws μ Q E _ h => pu_Share_divided_by ws μ Q E h) (fun _ _ _ _ _ _ us hl => match us, hl with | [_, _], _ => rfl))
theorem ok__law_cells (G : Gs P K mg) : FnD P w K mg base "_law_cells" 1 1 sp_law_cells := (fnD_of G.d__law_cells sc__law_cells (bd__law_cells G ) (fun ws μ Q E _ h => pure_cells ws μ Q E h) (fun _ _ _ _ _ _ us hl => match us, hl with | [_], _ => rfl))
theorem ok__law_draw (G : Gs P K mg) : FnD P w K mg base "_law_draw" 1 2 sp_law_draw := (fnD_of G.d__law_draw sc__law_draw (bd__law_draw G ) (fun ws μ Q E _ h => pure_draw ws μ Q E h) (fun _ _ _ _ _ _ us hl => match us, hl with | [_, _], _ => rfl))
theorem ok__law_any (G : Gs P K mg) : FnD P w K mg base "_law_any" 2 2 sp_law_any := (fnD_of G.d__law_any sc__law_any (bd__law_any G (by decide) (ok__law_draw G)) (fun ws μ Q E _ h => pure_any ws μ Q E h) (fun _ _ _ _ _ _ us hl => match us, hl with | [_, _], _ => rfl))
theorem ok__law_likes (G : Gs P K mg) : ∀ j : Nat, FnD P w K mg base "_law_like" (j + 1) 2 (sp_like j)
  | 0 => fnD_of G.d__law_like sc__law_like (wb := wNever) (fun _ _ _ _ _ _ _ _ _ => pssd_never) (fun ws μ Q E _ ⟨ds, _, d, _, h, _⟩ => (by unfold plainD at h; cases h)) (fun _ _ _ _ _ _ us hl => match us, hl with | [_, _], _ => rfl)
  | j + 1 => fnD_of G.d__law_like sc__law_like (bd__law_like G (Nat.le_refl (j + 1)) (ok__law_likes G j)) (fun ws μ Q E _ h => pure_like [((.own "Share", .own "Share"), true), ((.ty "bool", .own "Share"), false), ((.ty "NoneType", .own "Share"), false), ((.ty "str", .own "Share"), false), ((.ty "tuple", .own "Share"), false), ((.ty "list", .own "Share"), false), ((.ty "int", .own "Share"), false)] j ws μ Q E h) (fun _ _ _ _ _ _ us hl => match us, hl with | [_, _], _ => rfl)
theorem ok__law_like (G : Gs P K mg) : FnD P w K mg base "_law_like" 7 2 (sp_like 6) := ok__law_likes G 6
theorem ok__law_field (G : Gs P K mg) : FnHD P w K mg base "_law_field" 1 1 sp__law_field := fnHD_of G.d__law_field sc__law_field (bd__law_field G ) (fun ws μ Q E _ h => pu__law_field ws μ Q E h) (fun _ _ _ _ _ _ us hl => match us, hl with | [_], _ => rfl)
theorem lamd_all (G : Gs P K mg) : ∀ e ∈ LT, LamD P w K mg base 6 e.1 e.2.1 e.2.2 := List.forall_mem_cons.mpr ⟨lamd_0 G (by decide) (mk2_Share G), List.forall_mem_cons.mpr ⟨lamd_1 G (by decide) (mk2_Share G), List.forall_mem_cons.mpr ⟨lamd_2 G (by decide) (mk1_Share G), List.forall_mem_cons.mpr ⟨lamd_3 G (by decide) (op_Share___mul__ G), List.forall_mem_cons.mpr ⟨lamd_4 G (by decide) (op_Share___sub__ G), List.forall_mem_cons.mpr ⟨lamd_5 G (by decide) (op_Share___add__ G), List.forall_mem_cons.mpr ⟨lamd_6 G (by decide) (mt_Share_is_below G), List.forall_mem_cons.mpr ⟨lamd_7 G (by decide) (mt_Share_divided_by G), List.forall_mem_cons.mpr ⟨lamd_8 G (by decide) (mt_Share_divided_by G), List.forall_mem_cons.mpr ⟨lamd_9 G (by decide) (mt_Share_power G), List.forall_mem_cons.mpr ⟨lamd_10 G (by decide) (mk2_Share G) (by decide) (mt_Share_divided_by G), fun _ h => nomatch h⟩⟩⟩⟩⟩⟩⟩⟩⟩⟩⟩
theorem lamHs : ∀ e ∈ LT, ∀ y ∈ e.1.scope.names, y.2 = .free → y.1 ∈ lamH := List.forall_mem_cons.mpr ⟨free_in (by decide +kernel), List.forall_mem_cons.mpr ⟨free_in (by decide +kernel), List.forall_mem_cons.mpr ⟨free_in (by decide +kernel), List.forall_mem_cons.mpr ⟨free_in (by decide +kernel), List.forall_mem_cons.mpr ⟨free_in (by decide +kernel), List.forall_mem_cons.mpr ⟨free_in (by decide +kernel), List.forall_mem_cons.mpr ⟨free_in (by decide +kernel), List.forall_mem_cons.mpr ⟨free_in (by decide +kernel), List.forall_mem_cons.mpr ⟨free_in (by decide +kernel), List.forall_mem_cons.mpr ⟨free_in (by decide +kernel), List.forall_mem_cons.mpr ⟨free_in (by decide +kernel), fun _ h => nomatch h⟩⟩⟩⟩⟩⟩⟩⟩⟩⟩⟩
theorem ok__law_try (G : Gs P K mg) : FnDL P w K mg base "_law_try" lamH 8 1 (sp__law_try LT) := fnDL_of G.d__law_try sc__law_try (bd__law_try G (T := LT) (hs := lamH) (kT := 6) (by decide) (lamd_all G) lamHs (by decide) (ok__law_field G)) (fun cl cs ws μ Q E _ h => pu__law_try LT cl cs ws μ Q E h) (fun _ _ _ _ _ _ us hl => match us, hl with | [_], _ => rfl)
theorem ok__law_errors (G : Gs P K mg) : FnDL P w K mg base "_law_errors" lamH 9 1 (sp__law_errors LT) := fnDL_of G.d__law_errors sc__law_errors (bd__law_errors G (T := LT) (hs := lamH) (kT := 6) (by decide) (lamd_all G) lamHs (by decide) (ok__law_try G)) (fun cl cs ws μ Q E _ h => pu__law_errors LT cl cs ws μ Q E h) (fun _ _ _ _ _ _ us hl => match us, hl with | [_], _ => rfl)
theorem ok__law_ratio (G : Gs P K mg) : FnD P w K mg base "_law_ratio" 1 2 sp__law_ratio := (fnD_of G.d__law_ratio sc__law_ratio (bd__law_ratio G ) (fun ws μ Q E _ h => pu__law_ratio ws μ Q E h) (fun _ _ _ _ _ _ us hl => match us, hl with | [_, _], _ => rfl))
theorem ok__law_pair (G : Gs P K mg) : FnD P w K mg base "_law_pair" 3 1 sp__law_pair := (fnD_of G.d__law_pair sc__law_pair (bd__law_pair G (by decide) (pr_Share_bottom G) (by decide) (pr_Share_top G)) (fun ws μ Q E _ h => pu__law_pair ws μ Q E h) (fun _ _ _ _ _ _ us hl => match us, hl with | [_], _ => rfl))
theorem ok__law_share (G : Gs P K mg) : FnD P w K mg base "_law_share" 5 1 sp__law_share := (fnD_of G.d__law_share sc__law_share (bd__law_share G (by decide) (mk2_Share G)) (fun ws μ Q E _ h => pu__law_share ws μ Q E h) (fun _ _ _ _ _ _ us hl => match us, hl with | [_], _ => rfl))
theorem ok__law_some_pair (G : Gs P K mg) : FnD P w K mg base "_law_some_pair" 2 4 sp__law_some_pair := (fnD_of G.d__law_some_pair sc__law_some_pair (bd__law_some_pair G (by decide) (ok__law_draw G) (by decide) (ok__law_ratio G)) (fun ws μ Q E _ h => pu__law_some_pair ws μ Q E h) (fun _ _ _ _ _ _ us hl => match us, hl with | [_, _, _, _], _ => rfl))
end
theorem law_at [TheW] {w : World} {K : PySem.W.Frag} {mg : Str → Option Value} {fa : Addr} {h : Heap} (KX : K.In h) (c : SaysP fa_ fn prs tf exB w h K) (G : Gs Rw.prog K mg) (hfa : mg "law" = some (.ref fa)) : LamX.LawAtS Rw w K (L2.CX Rw.prog w) 10 63 "_law_script" mg fa h :=
  lawAt_ofL (N := [("_law_script" : Str), ("_law_bag" : Str), ("_law_turn" : Str), ("_law_pair_here" : Str), ("_law_share_here" : Str), ("_law_odd" : Str), ("_law_low" : Str), ("_law_far" : Str), ("_law_asks" : Str)]) (k := 9) (c := sp_law) (tf := tf) G.d_law sc_law hfa G.gl_law (fun base _ _ htab => (bd_law G (htab _ (.head _)) (by decide) (mk1_Share G) (by decide) (mt_Share_power G) (by decide) (ok__law_any G) (by decide) (ok__law_cells G) (by decide) (ok__law_errors G) (by decide) (ok__law_like G) (by decide) (ok__law_pair G) (by decide) (ok__law_share G) (by decide) (ok__law_some_pair G))) (fun cl ws μ Q E _ h => pu_law cl ws μ Q E h) law_hc KX c.x.hd c.x.out c.x.empty c.tl (fun _ _ _ _ _ _ us hl => match us, hl with | [_], _ => rfl)
end Lk02
open PySem PySem.W PySem.Calls PyProof.Rows
theorem PySem.Challenge.cw_overscrawl_k02_shares_refused_holds : PySem.Challenge.rw_overscrawl_k02_shares_refused.Holds := by
  w_on; o_law
  refine HandSHeadRun.head_any (r := OpenLaw.row PySem.Challenge.rw_overscrawl_k02_shares_refused) (q := view (OpenLaw.row PySem.Challenge.rw_overscrawl_k02_shares_refused).prog [38]) (H := Dl.hookP 6 Lk02.fa_ Lk02.fn Lk02.prs Lk02.tf Lk02.exB) (ob := Lk02.ob) (M := 5000) (loose := Lk02.names) (d := HandSHeadRun.topDef (OpenLaw.row PySem.Challenge.rw_overscrawl_k02_shares_refused).prog 38) (kwd := []) Lk02.ob_eq
    (by kernel_rfl) (fun s => by kernel_rfl) Lk02.run (by kernel_rfl) (by kernel_rfl) (by kernel_rfl) (by rfl) (by first | assumption | decide +kernel) (by decide +kernel) ⟨rfl, rfl, rfl, rfl, rfl, by decide +kernel⟩ ?hw ?hc
  case hw => w_witness2
  case hc =>
    refine LamX.walk_ofTsE (l := PySem.Challenge.rw_overscrawl_k02_shares_refused) (n := 63) (k := 10) (x := "_law_script") (CX := fun w => L2.CX (PySem.Challenge.rw_overscrawl_k02_shares_refused).prog w) rfl (by decide) (by kernel_rfl) ⟨rfl, by decide, by decide⟩ ?F (fun w H s e s' z => Dl.cx_no _ _ H s e s' z)
    intro w mg fa h Y G hmg0
    obtain ⟨K, KX, c⟩ := Y
    have hmg : mg ("law" : PySem.Str) = some (.ref fa) := by
      have e : (HandSHeadRun.topDef (OpenLaw.row PySem.Challenge.rw_overscrawl_k02_shares_refused).prog 38).name = ("law" : PySem.Str) := by kernel_rfl
      rw [← e]
      exact hmg0
    haveI : Dl.TheW := ⟨w⟩
    exact ⟨K, KX, Lk02.law_at KX c (Lk02.gs_of KX G c) hmg⟩
