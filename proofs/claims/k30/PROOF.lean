import PyProof.Rows.All
import Wide.All
import OpenK.AllK
import Wide.FinOn
import HandS.ForMost
import HandS.ForExc
import HandS.Defaults
import HandS.HeadHook2
import HandS.IsInst
import HandS.Zip
import HandS.TupAny
import HandS.Wide
import HandS.HeadHook4
import HandS.HeadEnd
import HandS.HeadWalk
import KE.KStateDown
import HandS.Head0
import HandS.Head1
import HandS.Head2
import PySem.Challenge.RW_overscrawl_k30_names_recognized
set_option Elab.async false
set_option linter.all false
set_option maxRecDepth 100000
set_option maxHeartbeats 2000000
namespace Dl
open PySem PySem.Spec PyProof.Rows L2

/-- data that never changes -/
inductive D where
  | non | bl (b : Bool) | int (i : Int) | str (x : List Nat)
  | tup (xs : List D) | lst (xs : List D)
  | dic (ks vs : List D)
  | ins (c : Str) (ks : List Str) (vs : List D)
  /-- a built-in class, a class of the text -/
  | ty (n : String) | cls (c : Str)
  deriving Inhabited

/-- an object that may change -/
inductive O where
  | dead
  | lst (xs : List D)
  | ins (c : Str) (ks : List Str) (vs : List D)
  deriving Inhabited

/-- a value at hand: data, or an object of the store -/
inductive W where
  | d (x : D) | loc (n : Nat)
  /-- the law's script -/
  | scr (xs : List Int)
  deriving Inhabited

/-- the way of a Bool, no definition: nothing unfolds it -/
structure brD (b : Bool) (A B : Prop) : Prop where
  yes : b = true → A
  no : b = false → B
theorem brD_t {A B : Prop} (h : brD true A B) : A := h.yes rfl
theorem brD_f {A B : Prop} (h : brD false A B) : B := h.no rfl
theorem br {b : Bool} {A B : Prop} (h1 : b = true → A) (h2 : b = false → B) : brD b A B := ⟨h1, h2⟩
theorem brT {b : Bool} {A B : Prop} (h : b = true) (h1 : A) : brD b A B := br (fun _ => h1) fun z => by rw [h] at z; cases z
theorem brF {b : Bool} {A B : Prop} (h : b = false) (h1 : B) : brD b A B := br (fun z => by rw [h] at z; cases z) fun _ => h1
abbrev mkS (x : List Nat) : Str := ⟨x.toArray⟩

/-- a tuple that stands: laid, or of the written part -/
def TupAt (K : PySem.W.Frag) (F : Hp) (a : Addr) (xs : List V) : Prop :=
  F a = some (.tup xs) ∨ ∃ (o : Obj) (its : Array Value) (n : Nat), K.lookup a = some o ∧ o.cls = .type "tuple" ∧ o.data = .seq its n ∧ its.size ≤ sizeLine ∧ Vals xs its.toList
theorem TupAt.sq {K : PySem.W.Frag} {F H : Hp} {a : Addr} {xs : List V} (h : TupAt K F a xs) (s : ∀ b o, F b = some o → H b = some o) : SqT K H a xs := h.elim (fun z => .inl (.inl (s _ _ z))) .inr
mutual
def Rep (K : PySem.W.Frag) (F : Hp) : D → V → Prop
  | .non, v => v = .non
  | .bl b, v => v = .bl b
  | .int i, v => v = .int i
  | .str x, v => v = .str (mkS x)
  | .tup xs, v => ∃ a vs, v = .ref a ∧ TupAt K F a vs ∧ RepL K F xs vs
  | .lst xs, v => ∃ a vs, v = .ref a ∧ F a = some (.lst vs) ∧ RepL K F xs vs
  | .dic _ _, _ => False
  | .ins c ks ds, v => ∃ a dx fs, v = .ref a ∧ F a = some (.ins (He.ga K c) dx fs) ∧ fs.map (·.1) = ks ∧ RepL K F ds (fs.map (·.2))
  | .ty n, v => v = .ty n
  | .cls c, v => v = .ref (He.ga K c)
def RepL (K : PySem.W.Frag) (F : Hp) : List D → List V → Prop
  | [], vs => vs = []
  | d :: ds, vs => ∃ v r, vs = v :: r ∧ Rep K F d v ∧ RepL K F ds r
end

def SubH (F H : Hp) : Prop := ∀ b o, F b = some o → H b = some o
theorem SubH.refl (F : Hp) : SubH F F := fun _ _ h => h
theorem SubH.trans {F G H : Hp} (a : SubH F G) (b : SubH G H) : SubH F H := fun c o h => b c o (a c o h)

section
variable {K : PySem.W.Frag} {F F' : Hp}
theorem SqL.sub {a : Addr} {xs : List V} (s : SubH F F') (h : SqL K F a xs) : SqL K F' a xs := by
  rcases h with (h | ⟨o, h⟩) | h
  · exact .inl (.inl (s _ _ h))
  · exact .inl (.inr ⟨o, s _ _ h⟩)
  · exact .inr h
theorem TupAt.sub {a : Addr} {xs : List V} (s : SubH F F') (h : TupAt K F a xs) : TupAt K F' a xs := h.elim (fun z => .inl (s _ _ z)) .inr
mutual
theorem Rep.sub (s : SubH F F') : ∀ (d : D) (v : V), Rep K F d v → Rep K F' d v
  | .non, _, h => h
  | .bl _, _, h => h
  | .int _, _, h => h
  | .str _, _, h => h
  | .tup xs, _, h => by
    unfold Rep at h ⊢
    obtain ⟨a, vs, e, q, r⟩ := h
    exact ⟨a, vs, e, TupAt.sub s q, RepL.sub s xs vs r⟩
  | .lst xs, _, h => by
    unfold Rep at h ⊢
    obtain ⟨a, vs, e, q, r⟩ := h
    exact ⟨a, vs, e, s _ _ q, RepL.sub s xs vs r⟩
  | .dic _ _, _, h => h
  | .ins c ks ds, _, h => by
    unfold Rep at h ⊢
    obtain ⟨a, dx, fs, e, q, k, r⟩ := h
    exact ⟨a, dx, fs, e, s _ _ q, k, RepL.sub s ds _ r⟩
  | .ty _, _, h => h
  | .cls _, _, h => h
theorem RepL.sub (s : SubH F F') : ∀ (ds : List D) (vs : List V), RepL K F ds vs → RepL K F' ds vs
  | [], _, h => h
  | d :: ds, vs, h => by
    unfold RepL at h ⊢
    obtain ⟨v, r, e, q, t⟩ := h
    exact ⟨v, r, e, Rep.sub s d v q, RepL.sub s ds r t⟩
end
theorem RepL.len : ∀ {ds : List D} {vs : List V}, RepL K F ds vs → ds.length = vs.length
  | [], _, h => by unfold RepL at h; subst h; rfl
  | _ :: ds, _, h => by
    unfold RepL at h
    obtain ⟨v, r, rfl, _, t⟩ := h
    simp [RepL.len t]
theorem RepL.get : ∀ {ds : List D} {vs : List V} {i : Nat} {d : D}, RepL K F ds vs → ds[i]? = some d → ∃ v, vs[i]? = some v ∧ Rep K F d v
  | [], _, i, d, h, e => by simp at e
  | x :: ds, _, 0, d, h, e => by
    unfold RepL at h
    obtain ⟨v, r, rfl, q, t⟩ := h
    simp at e; subst e
    exact ⟨v, rfl, q⟩
  | x :: ds, _, i + 1, d, h, e => by
    unfold RepL at h
    obtain ⟨v, r, rfl, q, t⟩ := h
    obtain ⟨u, e1, e2⟩ := RepL.get (i := i) (d := d) t (by simpa using e)
    exact ⟨u, by simpa using e1, e2⟩
theorem RepL.getV : ∀ {ds : List D} {vs : List V} {i : Nat} {v : V}, RepL K F ds vs → vs[i]? = some v → ∃ d, ds[i]? = some d ∧ Rep K F d v
  | [], _, i, v, h, e => by unfold RepL at h; subst h; simp at e
  | x :: ds, _, 0, d, h, e => by
    unfold RepL at h
    obtain ⟨v, r, rfl, q, t⟩ := h
    simp at e; subst e
    exact ⟨x, rfl, q⟩
  | x :: ds, _, i + 1, d, h, e => by
    unfold RepL at h
    obtain ⟨v, r, rfl, q, t⟩ := h
    obtain ⟨u, e1, e2⟩ := RepL.getV (i := i) (v := d) t (by simpa using e)
    exact ⟨u, by simpa using e1, e2⟩
theorem RepL.app : ∀ {ds es : List D} {vs us : List V}, RepL K F ds vs → RepL K F es us → RepL K F (ds ++ es) (vs ++ us)
  | [], _, _, _, h, g => by unfold RepL at h; subst h; exact g
  | x :: ds, es, _, us, h, g => by
    unfold RepL at h
    obtain ⟨v, r, rfl, q, t⟩ := h
    show RepL K F (x :: (ds ++ es)) (v :: (r ++ us))
    unfold RepL
    exact ⟨v, _, rfl, q, RepL.app t g⟩
theorem RepL.one {d : D} {v : V} (h : Rep K F d v) : RepL K F [d] [v] := by
  unfold RepL
  exact ⟨v, [], rfl, h, by unfold RepL; rfl⟩
theorem RepL.nil : RepL K F [] [] := by unfold RepL; rfl
theorem RepL.cons {d : D} {v : V} {ds : List D} {vs : List V} (h : Rep K F d v) (t : RepL K F ds vs) : RepL K F (d :: ds) (v :: vs) := by
  unfold RepL
  exact ⟨v, vs, rfl, h, t⟩
theorem RepL.take : ∀ {ds : List D} {vs : List V} (n : Nat), RepL K F ds vs → RepL K F (ds.take n) (vs.take n)
  | [], _, n, h => by unfold RepL at h; subst h; simp; exact RepL.nil
  | x :: ds, _, 0, h => by simp; exact RepL.nil
  | x :: ds, _, n + 1, h => by
    unfold RepL at h
    obtain ⟨v, r, rfl, q, t⟩ := h
    exact RepL.cons q (RepL.take n t)
theorem RepL.drop : ∀ {ds : List D} {vs : List V} (n : Nat), RepL K F ds vs → RepL K F (ds.drop n) (vs.drop n)
  | [], _, n, h => by unfold RepL at h; subst h; simp; exact RepL.nil
  | x :: ds, _, 0, h => h
  | x :: ds, _, n + 1, h => by
    unfold RepL at h
    obtain ⟨v, r, rfl, q, t⟩ := h
    exact RepL.drop n t
end

def OOk (K : PySem.W.Frag) (F H : Hp) (a : Addr) : O → Prop
  | .dead => True
  | .lst xs => F a = none ∧ ∃ vs, H a = some (.lst vs) ∧ RepL K F xs vs
  | .ins c ks ds => F a = none ∧ ∃ dx fs, H a = some (.ins (He.ga K c) dx fs) ∧ fs.map (·.1) = ks ∧ RepL K F ds (fs.map (·.2))
structure StOk (K : PySem.W.Frag) (F : Hp) (ρ : List Addr) (μ : List O) (H : Hp) : Prop where
  sub : SubH F H
  len : ρ.length = μ.length
  nd : ρ.Nodup
  dom : ∀ a ∈ ρ, H a ≠ none
  obj : ∀ (i : Nat) a o, ρ[i]? = some a → μ[i]? = some o → OOk K F H a o
/-- what an operation may have done -/
structure Post (F : Hp) (ρ : List Addr) (H : Hp) (F' : Hp) (ρ' : List Addr) (H' : Hp) : Prop where
  le : SubH F F'
  pre : ∃ t, ρ' = ρ ++ t
  new : ∀ b, F' b ≠ none → F b ≠ none ∨ H b = none ∨ b ∈ ρ
  keep : ∀ b o, H b = some o → b ∉ ρ → H' b = some o
  fresh : ∀ b, b ∈ ρ' → b ∉ ρ → H b = none
section
variable {K : PySem.W.Frag} {F F1 F2 : Hp} {ρ ρ1 ρ2 : List Addr} {H H1 H2 : Hp} {μ : List O}
theorem Post.refl (F : Hp) (ρ : List Addr) (H : Hp) : Post F ρ H F ρ H := ⟨SubH.refl F, ⟨[], by simp⟩, fun _ h => .inl h, fun _ _ h _ => h, fun b h n => absurd h n⟩
theorem Post.mem (a : Post F ρ H F1 ρ1 H1) {b : Addr} (h : b ∈ ρ) : b ∈ ρ1 := by
  obtain ⟨t, e⟩ := a.pre
  rw [e]
  exact List.mem_append_left _ h
theorem Post.back (a : Post F ρ H F1 ρ1 H1) {b : Addr} (h : H1 b = none) (n : b ∉ ρ) : H b = none := by
  cases q : H b with
  | none => rfl
  | some o => rw [a.keep b o q n] at h; cases h
theorem Post.trans (a : Post F ρ H F1 ρ1 H1) (b : Post F1 ρ1 H1 F2 ρ2 H2) (d : ∀ c ∈ ρ1, H1 c ≠ none) : Post F ρ H F2 ρ2 H2 := by
  refine ⟨a.le.trans b.le, ?_, fun c h => ?_, fun c o h n => ?_, fun c h n => ?_⟩
  · obtain ⟨t, e⟩ := a.pre
    obtain ⟨u, e'⟩ := b.pre
    exact ⟨t ++ u, by rw [e', e, List.append_assoc]⟩
  · by_cases hm : c ∈ ρ
    · exact .inr (.inr hm)
    · rcases b.new c h with h | h | h
      · exact a.new c h
      · exact .inr (.inl (a.back h hm))
      · exact .inr (.inl (a.fresh c h hm))
  · refine b.keep c o (a.keep c o h n) fun hm => ?_
    rw [a.fresh c hm n] at h
    cases h
  · by_cases hm : c ∈ ρ1
    · exact a.fresh c hm n
    · exact a.back (b.fresh c h hm) n
theorem Post.get (a : Post F ρ H F1 ρ1 H1) {i : Nat} {x : Addr} (h : ρ[i]? = some x) : ρ1[i]? = some x := by
  obtain ⟨t, e⟩ := a.pre
  obtain ⟨hi, e2⟩ := List.getElem?_eq_some_iff.mp h
  rw [e, List.getElem?_append_left hi, h]
/-- a new thing laid, kept as data -/
theorem Post.data {p : Addr} {o : HO} (sub : SubH F H) (hp : H p = none) : Post F ρ H (upd F p o) ρ (upd H p o) := by
  have hf : F p = none := by
    cases q : F p with
    | none => rfl
    | some u => rw [sub p u q] at hp; cases hp
  refine ⟨fun b u h => ?_, ⟨[], by simp⟩, fun b h => ?_, fun b u h _ => ?_, fun b h n => absurd h n⟩
  · rw [upd_ne (ne_of_none h hf)]; exact h
  · by_cases e : b = p
    · subst e; exact .inr (.inl hp)
    · rw [upd_ne e] at h; exact .inl h
  · rw [upd_ne (ne_of_none h hp)]; exact h
theorem SubH.upd {p : Addr} {o : HO} (sub : SubH F H) : SubH (L2.upd F p o) (L2.upd H p o) := fun b u h => by
  by_cases e : b = p
  · subst e; rw [upd_same] at h ⊢; exact h
  · rw [upd_ne e] at h ⊢; exact sub b u h
theorem OOk.mono {K : PySem.W.Frag} {a : Addr} {o : O} (h : OOk K F H a o) (s : SubH F F1) (hf : F a = none → F1 a = none) (hh : ∀ u, H a = some u → H1 a = some u) : OOk K F1 H1 a o := by
  cases o with
  | dead => trivial
  | lst xs =>
    obtain ⟨e, vs, q, r⟩ := h
    exact ⟨hf e, vs, hh _ q, RepL.sub s _ _ r⟩
  | ins c ks ds =>
    obtain ⟨e, dx, fs, q, k, r⟩ := h
    exact ⟨hf e, dx, fs, hh _ q, k, RepL.sub s _ _ r⟩
theorem StOk.data {p : Addr} {o : HO} (h : StOk K F ρ μ H) (hp : H p = none) : StOk K (L2.upd F p o) ρ μ (L2.upd H p o) := by
  have hf : F p = none := by
    cases q : F p with
    | none => rfl
    | some u => rw [h.sub p u q] at hp; cases hp
  have np : ∀ a ∈ ρ, a ≠ p := fun a ha e => h.dom a ha (e ▸ hp)
  refine ⟨h.sub.upd, h.len, h.nd, fun a ha => by rw [upd_ne (np a ha)]; exact h.dom a ha, fun i a o' e1 e2 => ?_⟩
  have na := np a (List.mem_of_getElem? e1)
  exact (h.obj i a o' e1 e2).mono (Post.data h.sub hp (ρ := ρ)).le (fun e => by rw [upd_ne na]; exact e) fun u e => by rw [upd_ne na]; exact e
end

def RepW (K : PySem.W.Frag) (F : Hp) (ρ : List Addr) : W → V → Prop
  | .d x, v => Rep K F x v
  | .loc n, v => ∃ a, ρ[n]? = some a ∧ v = .ref a
  | .scr xs, v => ∃ a, v = .ref a ∧ SqL K F a (xs.map V.int)
def RepWL (K : PySem.W.Frag) (F : Hp) (ρ : List Addr) : List W → List V → Prop
  | [], vs => vs = []
  | w :: ws, vs => ∃ v r, vs = v :: r ∧ RepW K F ρ w v ∧ RepWL K F ρ ws r
section
variable {K : PySem.W.Frag} {F F1 : Hp} {ρ ρ1 : List Addr} {H H1 : Hp}
theorem RepW.post {w : W} {v : V} (h : RepW K F ρ w v) (p : Post F ρ H F1 ρ1 H1) : RepW K F1 ρ1 w v := by
  cases w with
  | d x => exact Rep.sub p.le x v h
  | loc n =>
    obtain ⟨a, e, q⟩ := h
    exact ⟨a, p.get e, q⟩
  | scr xs =>
    obtain ⟨a, e, q⟩ := h
    exact ⟨a, e, SqL.sub p.le q⟩
theorem RepWL.post : ∀ {ws : List W} {vs : List V}, RepWL K F ρ ws vs → Post F ρ H F1 ρ1 H1 → RepWL K F1 ρ1 ws vs
  | [], _, h, _ => h
  | w :: ws, _, h, p => by
    obtain ⟨v, r, e, q, t⟩ := h
    exact ⟨v, r, e, q.post p, t.post p⟩
theorem RepWL.len : ∀ {ws : List W} {vs : List V}, RepWL K F ρ ws vs → ws.length = vs.length
  | [], _, h => by cases h; rfl
  | w :: ws, _, h => by
    obtain ⟨v, r, rfl, q, t⟩ := h
    simp [t.len]
theorem RepWL.ofD : ∀ {ds : List D} {vs : List V}, RepWL K F ρ (ds.map W.d) vs → RepL K F ds vs
  | [], _, h => by cases h; exact RepL.nil
  | d :: ds, _, h => by
    obtain ⟨v, r, rfl, q, t⟩ := h
    exact RepL.cons q t.ofD
theorem RepWL.toD : ∀ {ds : List D} {vs : List V}, RepL K F ds vs → RepWL K F ρ (ds.map W.d) vs
  | [], _, h => by unfold RepL at h; exact h
  | d :: ds, _, h => by
    unfold RepL at h
    obtain ⟨v, r, rfl, q, t⟩ := h
    exact ⟨v, r, rfl, q, RepWL.toD t⟩
end

structure Dst where
  δ : List (Option W)
  μ : List O
/-- an exception: its class, its fields -/
structure Ex where
  c : Str
  ks : List Str
  vs : List D
abbrev DQ := W → Dst → Prop
abbrev DX := Ex → Dst → Prop
abbrev DE := Dst → DQ → DX → Prop
abbrev DT := Dst → (Bool → Dst → Prop) → DX → Prop
abbrev DA := Dst → (List W → Dst → Prop) → DX → Prop
structure DEnds where
  nx : Dst → Prop
  rt : W → List O → Prop
  ex : DX
  bk : Dst → Prop := fun _ => False
  ct : Dst → Prop := fun _ => False
abbrev DS := DEnds → Dst → Prop
/-- the entry of a body -/
structure En where
  F : Hp
  ρ : List Addr
  H : Hp
def ExRep (K : PySem.W.Frag) (F : Hp) (x : Ex) (cls : Value) (d : Option Addr) (H : Hp) : Prop :=
  cls = .ref (He.ga K x.c) ∧ ∃ dx fs, d = some dx ∧ H dx = some (.xd fs) ∧ fs.map (·.1) = x.ks ∧ RepL K F x.vs (fs.map (·.2))
structure Rl (K : PySem.W.Frag) (n : En) (F : Hp) (ρ : List Addr) (st : Dst) (σ : L2.St) (H : Hp) : Prop where
  ok : StOk K F ρ st.μ H
  po : Post n.F n.ρ n.H F ρ H
  len : st.δ.length = σ.length
  slots : ∀ (i : Nat) w, st.δ[i]? = some (some w) → ∃ v, σ[i]? = some (some v) ∧ RepW K F ρ w v
def TkD (X : Cx) (n : En) (E : DX) : Prop := Takes X (fun cls d σ H => ∃ st F ρ x, Rl X.K n F ρ st σ H ∧ ExRep X.K F x cls d H ∧ E x st)
def EPD (X : Cx) (n : En) (pins : List (Addr × Obj)) (σ : L2.St) (F : Hp) (ρ : List Addr) (H : Hp) (Q : DQ) (u : Value) (s' : Shared) : Prop :=
  ∃ v w st' H' F' ρ', Inv X pins σ H' s' ∧ RelV v u ∧ Post F ρ H F' ρ' H' ∧ Rl X.K n F' ρ' st' σ H' ∧ RepW X.K F' ρ' w v ∧ Q w st'
def TPD (X : Cx) (n : En) (pins : List (Addr × Obj)) (σ : L2.St) (F : Hp) (ρ : List Addr) (H : Hp) (Q : Bool → Dst → Prop) (b : Bool) (s' : Shared) : Prop :=
  ∃ st' H' F' ρ', Inv X pins σ H' s' ∧ Post F ρ H F' ρ' H' ∧ Rl X.K n F' ρ' st' σ H' ∧ Q b st'
def APD (X : Cx) (n : En) (pins : List (Addr × Obj)) (σ : L2.St) (F : Hp) (ρ : List Addr) (H : Hp) (Q : List W → Dst → Prop) (us : List Value) (s' : Shared) : Prop :=
  ∃ vs ws st' H' F' ρ', Inv X pins σ H' s' ∧ Vals vs us ∧ Post F ρ H F' ρ' H' ∧ Rl X.K n F' ρ' st' σ H' ∧ RepWL X.K F' ρ' ws vs ∧ Q ws st'
def SPD (X : Cx) (n : En) (pins : List (Addr × Obj)) (F : Hp) (ρ : List Addr) (H : Hp) (D : DEnds) (f : Flow) (s' : Shared) : Prop :=
  match f with
  | .next => ∃ σ' H' F' ρ' st', Inv X pins σ' H' s' ∧ Post F ρ H F' ρ' H' ∧ Rl X.K n F' ρ' st' σ' H' ∧ D.nx st'
  | .brk => ∃ σ' H' F' ρ' st', Inv X pins σ' H' s' ∧ Post F ρ H F' ρ' H' ∧ Rl X.K n F' ρ' st' σ' H' ∧ D.bk st'
  | .cont => ∃ σ' H' F' ρ' st', Inv X pins σ' H' s' ∧ Post F ρ H F' ρ' H' ∧ Rl X.K n F' ρ' st' σ' H' ∧ D.ct st'
  | .ret u => ∃ v w σ' H' F' ρ' μ, Inv X pins σ' H' s' ∧ RelV v u ∧ Post F ρ H F' ρ' H' ∧ Post n.F n.ρ n.H F' ρ' H' ∧ StOk X.K F' ρ' μ H' ∧ RepW X.K F' ρ' w v ∧ D.rt w μ
structure PD (X : Cx) (n : En) (e : Expr) (w : DE) : Prop where
  run : ∀ (pins : List (Addr × Obj)) (s : Shared) (σ : L2.St) (H F : Hp) (ρ : List Addr) (st : Dst) (Q : DQ) (E : DX), Inv X pins σ H s → Rl X.K n F ρ st σ H → TkD X n E → w st Q E →
    wpAny (model X.prog X.w) X.A (eval e X.env) (EPD X n pins σ F ρ H Q) X.xe s
structure PTD (X : Cx) (n : En) (e : Expr) (w : DT) : Prop where
  run : ∀ (pins : List (Addr × Obj)) (s : Shared) (σ : L2.St) (H F : Hp) (ρ : List Addr) (st : Dst) (Q : Bool → Dst → Prop) (E : DX), Inv X pins σ H s → Rl X.K n F ρ st σ H → TkD X n E → w st Q E →
    wpAny (model X.prog X.w) X.A (isTrue e X.env (eval e X.env)) (TPD X n pins σ F ρ H Q) X.xe s
/-- whatever its 'whole' is -/
structure PWD (X : Cx) (n : En) (e : Expr) (w : DT) : Prop where
  run : ∀ (whole : Sem Value) (pins : List (Addr × Obj)) (s : Shared) (σ : L2.St) (H F : Hp) (ρ : List Addr) (st : Dst) (Q : Bool → Dst → Prop) (E : DX), Inv X pins σ H s → Rl X.K n F ρ st σ H → TkD X n E → w st Q E →
    wpAny (model X.prog X.w) X.A (isTrue e X.env whole) (TPD X n pins σ F ρ H Q) X.xe s
theorem PWD.pt {X : Cx} {n : En} {e : Expr} {w : DT} (h : PWD X n e w) : PTD X n e w := ⟨h.run _⟩
structure PAD (X : Cx) (n : En) (es : List Expr) (w : DA) : Prop where
  run : ∀ (pos : Pos) (pins : List (Addr × Obj)) (s : Shared) (σ : L2.St) (H F : Hp) (ρ : List Addr) (st : Dst) (Q : List W → Dst → Prop) (E : DX), Inv X pins σ H s → Rl X.K n F ρ st σ H → TkD X n E → w st Q E →
    wpAny (model X.prog X.w) X.A (spliced (backTo pos (starEach es X.env))) (APD X n pins σ F ρ H Q) X.xe s
structure PSD (X : Cx) (n : En) (c : Stmt) (w : DS) : Prop where
  run : ∀ (pins : List (Addr × Obj)) (s : Shared) (σ : L2.St) (H F : Hp) (ρ : List Addr) (st : Dst) (D : DEnds), Inv X pins σ H s → Rl X.K n F ρ st σ H → TkD X n D.ex → w D st →
    wpAny (model X.prog X.w) X.A (exec c X.env) (SPD X n pins F ρ H D) X.xe s
structure PSSD (X : Cx) (n : En) (c : List Stmt) (w : DS) : Prop where
  run : ∀ (pins : List (Addr × Obj)) (s : Shared) (σ : L2.St) (H F : Hp) (ρ : List Addr) (st : Dst) (D : DEnds), Inv X pins σ H s → Rl X.K n F ρ st σ H → TkD X n D.ex → w D st →
    wpAny (model X.prog X.w) X.A (execs c X.env) (SPD X n pins F ρ H D) X.xe s

section
variable {K : PySem.W.Frag} {n : En} {F F1 F2 : Hp} {ρ ρ1 ρ2 : List Addr} {st st1 : Dst} {σ : L2.St} {H H1 H2 : Hp}
/-- a state after an operation on the heap alone -/
theorem Rl.step (R : Rl K n F ρ st σ H) (p : Post F ρ H F1 ρ1 H1) {μ : List O} (ok : StOk K F1 ρ1 μ H1) : Rl K n F1 ρ1 { st with μ := μ } σ H1 :=
  ⟨ok, R.po.trans p R.ok.dom, R.len, fun i w e => let ⟨v, a, b⟩ := R.slots i w e; ⟨v, a, b.post p⟩⟩
theorem Rl.data (R : Rl K n F ρ st σ H) {p : Addr} {o : HO} (hp : H p = none) : Rl K n (L2.upd F p o) ρ st σ (L2.upd H p o) :=
  R.step (Post.data R.ok.sub hp) (R.ok.data hp)
end

def tE (X : Cx) (n : En) (w : DE) : TE := fun σ H Q => ∃ F ρ st DQ E, Rl X.K n F ρ st σ H ∧ TkD X n E ∧ w st DQ E ∧
  ∀ v w' st' H' F' ρ', Post F ρ H F' ρ' H' → Rl X.K n F' ρ' st' σ H' → RepW X.K F' ρ' w' v → DQ w' st' → Q v H'
def tT (X : Cx) (n : En) (w : DT) : TT := fun σ H Q => ∃ F ρ st DQ E, Rl X.K n F ρ st σ H ∧ TkD X n E ∧ w st DQ E ∧
  ∀ b st' H' F' ρ', Post F ρ H F' ρ' H' → Rl X.K n F' ρ' st' σ H' → DQ b st' → Q b H'
def tA (X : Cx) (n : En) (w : DA) : TA := fun σ H Q => ∃ F ρ st DQ E, Rl X.K n F ρ st σ H ∧ TkD X n E ∧ w st DQ E ∧
  ∀ vs ws st' H' F' ρ', Post F ρ H F' ρ' H' → Rl X.K n F' ρ' st' σ H' → RepWL X.K F' ρ' ws vs → DQ ws st' → Q vs H'
def tS (X : Cx) (n : En) (w : DS) : TS := fun D σ H => ∃ F ρ st DD, Rl X.K n F ρ st σ H ∧ TkD X n DD.ex ∧ w DD st ∧
  (∀ σ' H' F' ρ' st', Post F ρ H F' ρ' H' → Rl X.K n F' ρ' st' σ' H' → DD.nx st' → D.nx σ' H') ∧ (∀ v w' H' F' ρ' μ, Post F ρ H F' ρ' H' → Post n.F n.ρ n.H F' ρ' H' → StOk X.K F' ρ' μ H' → RepW X.K F' ρ' w' v → DD.rt w' μ → D.rt v H') ∧
  (∀ σ' H' F' ρ' st', Post F ρ H F' ρ' H' → Rl X.K n F' ρ' st' σ' H' → DD.bk st' → D.bk σ' H') ∧ (∀ σ' H' F' ρ' st', Post F ρ H F' ρ' H' → Rl X.K n F' ρ' st' σ' H' → DD.ct st' → D.ct σ' H')
section
variable {X : Cx} {n : En}
theorem PD.pe {e : Expr} {w : DE} (h : PD X n e w) : PE X e (tE X n w) := by
  refine ⟨fun pins s σ H Q I ⟨F, ρ, st, DQ, E, R, tk, hw, k⟩ => ?_⟩
  refine thn (h.run pins s σ H F ρ st DQ E I R tk hw) fun u s1 ⟨v, w', st', H', F', ρ', I', r, a, b, c, d⟩ => ?_
  exact ⟨v, H', I', r, k v w' st' H' F' ρ' a b c d⟩
theorem PTD.pt {e : Expr} {w : DT} (h : PTD X n e w) : PT X e (tT X n w) := by
  refine ⟨fun pins s σ H Q I ⟨F, ρ, st, DQ, E, R, tk, hw, k⟩ => ?_⟩
  refine thn (h.run pins s σ H F ρ st DQ E I R tk hw) fun u s1 ⟨st', H', F', ρ', I', a, b, d⟩ => ?_
  exact ⟨H', I', k u st' H' F' ρ' a b d⟩
theorem PWD.pw {e : Expr} {w : DT} (h : PWD X n e w) : PW X e (tT X n w) := by
  refine ⟨fun wh pins s σ H Q I ⟨F, ρ, st, DQ, E, R, tk, hw, k⟩ => ?_⟩
  refine thn (h.run wh pins s σ H F ρ st DQ E I R tk hw) fun u s1 ⟨st', H', F', ρ', I', a, b, d⟩ => ?_
  exact ⟨H', I', k u st' H' F' ρ' a b d⟩
theorem PAD.pa {es : List Expr} {w : DA} (h : PAD X n es w) : PA X es (tA X n w) := by
  refine ⟨fun pos pins s σ H Q I ⟨F, ρ, st, DQ, E, R, tk, hw, k⟩ => ?_⟩
  refine thn (h.run pos pins s σ H F ρ st DQ E I R tk hw) fun u s1 ⟨v, w', st', H', F', ρ', I', r, a, b, c, d⟩ => ?_
  exact ⟨v, H', I', r, k v w' st' H' F' ρ' a b c d⟩
theorem SPD.sp {pins : List (Addr × Obj)} {F : Hp} {ρ : List Addr} {H : Hp} {DD : DEnds} {D : Ends} {f : Flow} {s' : Shared} (h : SPD X n pins F ρ H DD f s')
  (k1 : ∀ σ' H' F' ρ' st', Post F ρ H F' ρ' H' → Rl X.K n F' ρ' st' σ' H' → DD.nx st' → D.nx σ' H') (k2 : ∀ v w' H' F' ρ' μ, Post F ρ H F' ρ' H' → Post n.F n.ρ n.H F' ρ' H' → StOk X.K F' ρ' μ H' → RepW X.K F' ρ' w' v → DD.rt w' μ → D.rt v H')
  (k3 : ∀ σ' H' F' ρ' st', Post F ρ H F' ρ' H' → Rl X.K n F' ρ' st' σ' H' → DD.bk st' → D.bk σ' H') (k4 : ∀ σ' H' F' ρ' st', Post F ρ H F' ρ' H' → Rl X.K n F' ρ' st' σ' H' → DD.ct st' → D.ct σ' H') : SP X pins D f s' := by
  cases f with
  | next => obtain ⟨σ', H', F', ρ', st', I, p, R, q⟩ := h; exact ⟨σ', H', I, k1 _ _ _ _ _ p R q⟩
  | brk => obtain ⟨σ', H', F', ρ', st', I, p, R, q⟩ := h; exact ⟨σ', H', I, k3 _ _ _ _ _ p R q⟩
  | cont => obtain ⟨σ', H', F', ρ', st', I, p, R, q⟩ := h; exact ⟨σ', H', I, k4 _ _ _ _ _ p R q⟩
  | ret u => obtain ⟨v, w', σ', H', F', ρ', μ, I, r, p, p0, ok, rw, q⟩ := h; exact ⟨v, σ', H', I, r, k2 _ _ _ _ _ _ p p0 ok rw q⟩
theorem PSD.ps {c : Stmt} {w : DS} (h : PSD X n c w) : PS X c (tS X n w) := by
  refine ⟨fun pins s σ H D I ⟨F, ρ, st, DD, R, tk, hw, k1, k2, k3, k4⟩ => ?_⟩
  exact thn (h.run pins s σ H F ρ st DD I R tk hw) fun f s1 q => q.sp k1 k2 k3 k4
theorem PSSD.pss {c : List Stmt} {w : DS} (h : PSSD X n c w) : PSs X c (tS X n w) := by
  refine ⟨fun pins s σ H D I ⟨F, ρ, st, DD, R, tk, hw, k1, k2, k3, k4⟩ => ?_⟩
  exact thn (h.run pins s σ H F ρ st DD I R tk hw) fun f s1 q => q.sp k1 k2 k3 k4
/-- what is behind: the wish over D, as a wish of the layer below -/
abbrev qE (X : Cx) (n : En) (σ : L2.St) (F : Hp) (ρ : List Addr) (H : Hp) (Q : DQ) : VK := fun v H' => ∃ w' st' F' ρ', Post F ρ H F' ρ' H' ∧ Rl X.K n F' ρ' st' σ H' ∧ RepW X.K F' ρ' w' v ∧ Q w' st'
abbrev qT (X : Cx) (n : En) (σ : L2.St) (F : Hp) (ρ : List Addr) (H : Hp) (Q : Bool → Dst → Prop) : Bool → Hp → Prop := fun b H' => ∃ st' F' ρ', Post F ρ H F' ρ' H' ∧ Rl X.K n F' ρ' st' σ H' ∧ Q b st'
abbrev qA (X : Cx) (n : En) (σ : L2.St) (F : Hp) (ρ : List Addr) (H : Hp) (Q : List W → Dst → Prop) : List V → Hp → Prop := fun vs H' => ∃ ws st' F' ρ', Post F ρ H F' ρ' H' ∧ Rl X.K n F' ρ' st' σ H' ∧ RepWL X.K F' ρ' ws vs ∧ Q ws st'
abbrev qN (X : Cx) (n : En) (F : Hp) (ρ : List Addr) (H : Hp) (Q : Dst → Prop) : L2.St → Hp → Prop := fun σ' H' => ∃ F' ρ' st', Post F ρ H F' ρ' H' ∧ Rl X.K n F' ρ' st' σ' H' ∧ Q st'
abbrev qD (X : Cx) (n : En) (F : Hp) (ρ : List Addr) (H : Hp) (D : DEnds) : Ends where
  nx := qN X n F ρ H D.nx
  rt := fun v H' => ∃ w' F' ρ' μ, Post F ρ H F' ρ' H' ∧ Post n.F n.ρ n.H F' ρ' H' ∧ StOk X.K F' ρ' μ H' ∧ RepW X.K F' ρ' w' v ∧ D.rt w' μ
  bk := qN X n F ρ H D.bk
  ct := qN X n F ρ H D.ct
theorem pd_of {e : Expr} {t : TE} {w : DE} (h : PE X e t)
    (sim : ∀ (σ : L2.St) (H F : Hp) (ρ : List Addr) (st : Dst) (Q : DQ) (E : DX), Rl X.K n F ρ st σ H → TkD X n E → w st Q E → t σ H (qE X n σ F ρ H Q)) : PD X n e w := by
  refine ⟨fun pins s σ H F ρ st Q E I R tk hw => ?_⟩
  refine thn (h.run pins s σ H _ I (sim σ H F ρ st Q E R tk hw)) fun u s1 ⟨v, H', I', r, w', st', F', ρ', a, b, c, d⟩ => ?_
  exact ⟨v, w', st', H', F', ρ', I', r, a, b, c, d⟩
theorem ptd_of {e : Expr} {t : TT} {w : DT} (h : PT X e t)
    (sim : ∀ (σ : L2.St) (H F : Hp) (ρ : List Addr) (st : Dst) (Q : Bool → Dst → Prop) (E : DX), Rl X.K n F ρ st σ H → TkD X n E → w st Q E → t σ H (qT X n σ F ρ H Q)) : PTD X n e w := by
  refine ⟨fun pins s σ H F ρ st Q E I R tk hw => ?_⟩
  refine thn (h.run pins s σ H _ I (sim σ H F ρ st Q E R tk hw)) fun u s1 ⟨H', I', st', F', ρ', a, b, d⟩ => ?_
  exact ⟨st', H', F', ρ', I', a, b, d⟩
theorem pwd_of {e : Expr} {t : TT} {w : DT} (h : PW X e t)
    (sim : ∀ (σ : L2.St) (H F : Hp) (ρ : List Addr) (st : Dst) (Q : Bool → Dst → Prop) (E : DX), Rl X.K n F ρ st σ H → TkD X n E → w st Q E → t σ H (qT X n σ F ρ H Q)) : PWD X n e w := by
  refine ⟨fun wh pins s σ H F ρ st Q E I R tk hw => ?_⟩
  refine thn (h.run wh pins s σ H _ I (sim σ H F ρ st Q E R tk hw)) fun u s1 ⟨H', I', st', F', ρ', a, b, d⟩ => ?_
  exact ⟨st', H', F', ρ', I', a, b, d⟩
theorem pad_of {es : List Expr} {t : TA} {w : DA} (h : PA X es t)
    (sim : ∀ (σ : L2.St) (H F : Hp) (ρ : List Addr) (st : Dst) (Q : List W → Dst → Prop) (E : DX), Rl X.K n F ρ st σ H → TkD X n E → w st Q E → t σ H (qA X n σ F ρ H Q)) : PAD X n es w := by
  refine ⟨fun pos pins s σ H F ρ st Q E I R tk hw => ?_⟩
  refine thn (h.run pos pins s σ H _ I (sim σ H F ρ st Q E R tk hw)) fun u s1 ⟨v, H', I', r, w', st', F', ρ', a, b, c, d⟩ => ?_
  exact ⟨v, w', st', H', F', ρ', I', r, a, b, c, d⟩
theorem SP.spd {pins : List (Addr × Obj)} {F : Hp} {ρ : List Addr} {H : Hp} {D : DEnds} {f : Flow} {s' : Shared} (h : SP X pins (qD X n F ρ H D) f s') : SPD X n pins F ρ H D f s' := by
  cases f with
  | next => obtain ⟨σ', H', I, F', ρ', st', p, R, q⟩ := h; exact ⟨σ', H', F', ρ', st', I, p, R, q⟩
  | brk => obtain ⟨σ', H', I, F', ρ', st', p, R, q⟩ := h; exact ⟨σ', H', F', ρ', st', I, p, R, q⟩
  | cont => obtain ⟨σ', H', I, F', ρ', st', p, R, q⟩ := h; exact ⟨σ', H', F', ρ', st', I, p, R, q⟩
  | ret u => obtain ⟨v, σ', H', I, r, w', F', ρ', μ, p, p0, ok, rw, q⟩ := h; exact ⟨v, w', σ', H', F', ρ', μ, I, r, p, p0, ok, rw, q⟩
theorem psd_of {c : Stmt} {t : TS} {w : DS} (h : PS X c t)
    (sim : ∀ (σ : L2.St) (H F : Hp) (ρ : List Addr) (st : Dst) (D : DEnds), Rl X.K n F ρ st σ H → TkD X n D.ex → w D st → t (qD X n F ρ H D) σ H) : PSD X n c w := by
  refine ⟨fun pins s σ H F ρ st D I R tk hw => ?_⟩
  exact thn (h.run pins s σ H _ I (sim σ H F ρ st D R tk hw)) fun f s1 q => SP.spd q
theorem pssd_of {c : List Stmt} {t : TS} {w : DS} (h : PSs X c t)
    (sim : ∀ (σ : L2.St) (H F : Hp) (ρ : List Addr) (st : Dst) (D : DEnds), Rl X.K n F ρ st σ H → TkD X n D.ex → w D st → t (qD X n F ρ H D) σ H) : PSSD X n c w := by
  refine ⟨fun pins s σ H F ρ st D I R tk hw => ?_⟩
  exact thn (h.run pins s σ H _ I (sim σ H F ρ st D R tk hw)) fun f s1 q => SP.spd q
/-- the use of a part's reading within a rule's -/
theorem tE.use {w : DE} {σ : L2.St} {H F : Hp} {ρ : List Addr} {st : Dst} {E : DX} {DQ : DQ} {Q : VK} (R : Rl X.K n F ρ st σ H) (tk : TkD X n E) (h : w st DQ E)
    (k : ∀ v w' st' H' F' ρ', Post F ρ H F' ρ' H' → Rl X.K n F' ρ' st' σ H' → RepW X.K F' ρ' w' v → DQ w' st' → Q v H') : tE X n w σ H Q := ⟨F, ρ, st, _, E, R, tk, h, k⟩
theorem tT.use {w : DT} {σ : L2.St} {H F : Hp} {ρ : List Addr} {st : Dst} {E : DX} {DQ : Bool → Dst → Prop} {Q : Bool → Hp → Prop} (R : Rl X.K n F ρ st σ H) (tk : TkD X n E) (h : w st DQ E)
    (k : ∀ b st' H' F' ρ', Post F ρ H F' ρ' H' → Rl X.K n F' ρ' st' σ H' → DQ b st' → Q b H') : tT X n w σ H Q := ⟨F, ρ, st, _, E, R, tk, h, k⟩
theorem tA.use {w : DA} {σ : L2.St} {H F : Hp} {ρ : List Addr} {st : Dst} {E : DX} {DQ : List W → Dst → Prop} {Q : List V → Hp → Prop} (R : Rl X.K n F ρ st σ H) (tk : TkD X n E) (h : w st DQ E)
    (k : ∀ vs ws st' H' F' ρ', Post F ρ H F' ρ' H' → Rl X.K n F' ρ' st' σ H' → RepWL X.K F' ρ' ws vs → DQ ws st' → Q vs H') : tA X n w σ H Q := ⟨F, ρ, st, _, E, R, tk, h, k⟩
theorem tS.use {w : DS} {σ : L2.St} {H F : Hp} {ρ : List Addr} {st : Dst} {DD : DEnds} {D : Ends} (R : Rl X.K n F ρ st σ H) (tk : TkD X n DD.ex) (h : w DD st)
    (k1 : ∀ σ' H' F' ρ' st', Post F ρ H F' ρ' H' → Rl X.K n F' ρ' st' σ' H' → DD.nx st' → D.nx σ' H') (k2 : ∀ v w' H' F' ρ' μ, Post F ρ H F' ρ' H' → Post n.F n.ρ n.H F' ρ' H' → StOk X.K F' ρ' μ H' → RepW X.K F' ρ' w' v → DD.rt w' μ → D.rt v H')
    (k3 : ∀ σ' H' F' ρ' st', Post F ρ H F' ρ' H' → Rl X.K n F' ρ' st' σ' H' → DD.bk st' → D.bk σ' H') (k4 : ∀ σ' H' F' ρ' st', Post F ρ H F' ρ' H' → Rl X.K n F' ρ' st' σ' H' → DD.ct st' → D.ct σ' H') : tS X n w D σ H :=
  ⟨F, ρ, st, DD, R, tk, h, k1, k2, k3, k4⟩
end
end Dl
namespace Dl
open PySem PySem.Spec PyProof.Rows L2

inductive Grow : Hp → Hp → Hp → Hp → Prop
  | refl (F H : Hp) : Grow F H F H
  | lay {F H F' H' : Hp} {p : Addr} {o : HO} (hp : H p = none) (g : Grow (upd F p o) (upd H p o) F' H') : Grow F H F' H'
theorem Grow.one {F H : Hp} {p : Addr} {o : HO} (hp : H p = none) : Grow F H (upd F p o) (upd H p o) := .lay hp (.refl _ _)
theorem Grow.trans {F H F1 H1 F2 H2 : Hp} (a : Grow F H F1 H1) (b : Grow F1 H1 F2 H2) : Grow F H F2 H2 := by
  induction a with
  | refl => exact b
  | lay hp _ ih => exact .lay hp (ih b)
theorem Grow.sub {F H F1 H1 : Hp} (a : Grow F H F1 H1) (s : SubH F H) : SubH F F1 := by
  induction a with
  | refl => exact SubH.refl _
  | lay hp _ ih => exact (Post.data (ρ := []) s hp).le.trans (ih s.upd)
theorem Grow.in {F H F1 H1 : Hp} (a : Grow F H F1 H1) (s : SubH F H) : SubH F1 H1 := by
  induction a with
  | refl => exact s
  | lay hp _ ih => exact ih s.upd
theorem Rl.grow {K : PySem.W.Frag} {n : En} {F F1 : Hp} {ρ : List Addr} {st : Dst} {σ : L2.St} {H H1 : Hp} (R : Rl K n F ρ st σ H) (g : Grow F H F1 H1) : Post F ρ H F1 ρ H1 ∧ Rl K n F1 ρ st σ H1 := by
  induction g with
  | refl => exact ⟨Post.refl _ _ _, R⟩
  | @lay F H F' H' p o hp g ih =>
    have R1 := R.data (o := o) hp
    obtain ⟨p, R2⟩ := ih R1
    exact ⟨(Post.data R.ok.sub hp).trans p R1.ok.dom, R2⟩

section
variable {X : Cx} {n : En} {e a b : Expr} {pos : Pos}

def wVar (i : Nat) : DE := fun st Q _ => match st.δ[i]? with
  | some (some w) => Q w st
  | _ => False
theorem pd_var (i : Nat) {x : Str} {pos : Pos} (hN : X.N[i]? = some x := by rfl) (hv : Vis X.env.scope x := by first | exact Or.inl rfl | exact Or.inr (Or.inl rfl) | exact Or.inr (Or.inr rfl)) (hd : (x == ("__debug__" : Str)) = false := by decide)
    (hcd : (x == ("__classdict__" : Str)) = false := by decide) : PD X n (.Name x pos) (wVar i) := by
  refine pd_of (pe_var hN hv hd hcd) fun σ H F ρ st Q E R tk hw => ?_
  unfold wVar at hw
  split at hw
  · rename_i w e
    obtain ⟨v, e1, r⟩ := R.slots i w e
    exact ⟨v, e1, w, st, F, ρ, Post.refl _ _ _, R, r, hw⟩
  · exact hw.elim
def wC (d : D) : DE := fun st Q _ => Q (.d d) st
theorem pd_const {v : V} {d : D} (h : PE X e (tC v)) (r : ∀ F, Rep X.K F d v) : PD X n e (wC d) :=
  pd_of h fun σ H F ρ st Q E R tk hw => ⟨.d d, st, F, ρ, Post.refl _ _ _, R, r F, hw⟩
theorem pd_int {i j} : PD X n (.Constant (.int i) j pos) (wC (.int i)) := pd_const pe_int fun _ => rfl
theorem pd_bl {b j} : PD X n (.Constant (.bool b) j pos) (wC (.bl b)) := pd_const pe_bl fun _ => rfl
theorem pd_non {j} : PD X n (.Constant .none j pos) (wC .non) := pd_const pe_non fun _ => rfl
theorem pd_str (l : List Nat) {x : Str} {j} (h : x = mkS l := by decide +kernel) : PD X n (.Constant (.str x) j pos) (wC (.str l)) := pd_const pe_str fun _ => by subst h; rfl
/-- a global constant, of the written part -/
theorem pd_glob {x : Str} {v : V} {u : Value} {d : D} (hg : Gl X x) (hm : X.mg x = some u) (r : RelV v u) (rd : ∀ F, Rep X.K F d v) (hd : (x == ("__debug__" : Str)) = false := by decide) : PD X n (.Name x pos) (wC d) :=
  pd_const (pe_glob hg hm r hd) rd

abbrev DOp := D → D → (D → Prop) → Prop
def OpS (K : PySem.W.Frag) (r : R2) (o : DOp) : Prop := ∀ (F H : Hp) (x y : D) (v u : V) (Q : D → Prop) (k : VK), SubH F H → Rep K F x v → Rep K F y u → o x y Q → (∀ z H' d F', Grow F H F' H' → Rep K F' d z → Q d → k z H') → r v u H k
def wOp (o : DOp) (wa wb : DE) : DE := fun st Q E => wa st (fun a st1 => wb st1 (fun b st2 => match a, b with
  | .d x, .d y => o x y fun z => Q (.d z) st2
  | _, _ => False) E) E
theorem op_sim {r : R2} {o : DOp} {wa wb : DE} (s : OpS X.K r o) {σ : L2.St} {H F : Hp} {ρ : List Addr} {st : Dst} {Q : DQ} {E : DX} (R : Rl X.K n F ρ st σ H) (tk : TkD X n E) (h : wOp o wa wb st Q E) :
    tOp r (tE X n wa) (tE X n wb) σ H (qE X n σ F ρ H Q) := by
  refine tE.use R tk h fun v w1 st1 H1 F1 ρ1 p1 R1 r1 h1 => ?_
  refine tE.use R1 tk h1 fun u w2 st2 H2 F2 ρ2 p2 R2 r2 h2 => ?_
  cases w1 with
  | loc _ => exact h2.elim
  | scr _ => exact h2.elim
  | d x =>
    cases w2 with
    | loc _ => exact h2.elim
    | scr _ => exact h2.elim
    | d y =>
      refine s F2 H2 x y v u _ _ R2.ok.sub (Rep.sub p2.le x v r1) r2 h2 fun z H' d F' g rz q => ?_
      obtain ⟨p3, R3⟩ := R2.grow g
      exact ⟨.d d, st2, F', ρ2, (p1.trans p2 R1.ok.dom).trans p3 R2.ok.dom, R3, rz, q⟩
theorem pd_op {op : Operator} {r : R2} {o : DOp} {wa wb : DE} (ho : OpR X (binaryOp op) r) (s : OpS X.K r o) (ha : PD X n a wa) (hb : PD X n b wb) : PD X n (.BinOp a op b pos) (wOp o wa wb) :=
  pd_of (pe_op ho ha.pe hb.pe) fun _ _ _ _ _ _ _ R tk hw => op_sim s R tk hw
theorem pd_cmp {op : CmpOp} {r : R2} {o : DOp} {wa wb : DE} (ho : OpR X (compareOp op) r) (s : OpS X.K r o) (hm : behindInMarks op b = false) (ha : PD X n a wa) (hb : PD X n b wb) : PD X n (.Compare a [op] [b] pos) (wOp o wa wb) :=
  pd_of (pe_cmpR ho ha.pe hb.pe hm) fun _ _ _ _ _ _ _ R tk hw => op_sim s R tk hw
/-- two rules for one operator -/
theorem OpS.or {K : PySem.W.Frag} {r r' : R2} {o o' : DOp} (a : OpS K r o) (b : OpS K r' o') : OpS K (fun x y H Q => r x y H Q ∨ r' x y H Q) (fun x y Q => o x y Q ∨ o' x y Q) :=
  fun F H x y v u Q k s r1 r2 h c => h.elim (fun z => .inl (a F H x y v u Q k s r1 r2 z c)) (fun z => .inr (b F H x y v u Q k s r1 r2 z c))
theorem OpS.imp {K : PySem.W.Frag} {r : R2} {o o' : DOp} (a : OpS K r o) (h : ∀ x y Q, o' x y Q → o x y Q) : OpS K r o' :=
  fun F H x y v u Q k s r1 r2 z c => a F H x y v u Q k s r1 r2 (h x y Q z) c
/-- ints -/
def oI (g : Int → Int → D) (C : Int → Int → Prop) : DOp := fun x y Q => match x, y with
  | .int i, .int j => C i j ∧ Q (g i j)
  | _, _ => False
theorem ops_I {K : PySem.W.Frag} {C : Int → Int → Prop} {g : Int → Int → V} {g' : Int → Int → D} (hg : ∀ F i j, Rep K F (g' i j) (g i j)) : OpS K (rI C g) (oI g' C) := by
  intro F H x y v u Q k s r1 r2 h c
  cases x <;> first | exact (show False from h).elim | skip
  cases y <;> first | exact (show False from h).elim | skip
  obtain rfl := r1
  obtain rfl := r2
  exact ⟨_, _, rfl, rfl, h.1, c _ H _ F (.refl _ _) (hg F _ _) h.2⟩
def oI0 (g : Int → Int → D) : DOp := fun x y Q => match x, y with
  | .int i, .int j => Q (g i j)
  | _, _ => False
theorem ops_I0 {K : PySem.W.Frag} {g : Int → Int → V} {g' : Int → Int → D} (hg : ∀ F i j, Rep K F (g' i j) (g i j)) : OpS K (rI0 g) (oI0 g') := by
  intro F H x y v u Q k s r1 r2 h c
  cases x <;> first | exact (show False from h).elim | skip
  cases y <;> first | exact (show False from h).elim | skip
  obtain rfl := r1
  obtain rfl := r2
  exact ⟨_, _, rfl, rfl, c _ H _ F (.refl _ _) (hg F _ _) h⟩

/-- text + text -/
def oCatS : DOp := fun x y Q => match x, y with
  | .str a, .str b => a.length + b.length ≤ 16777216 ∧ Q (.str (a ++ b))
  | _, _ => False
theorem mkS_app (a b : List Nat) : mkS a ++ mkS b = mkS (a ++ b) := by
  show (⟨a.toArray ++ b.toArray⟩ : Str) = ⟨(a ++ b).toArray⟩
  simp
theorem mkS_len (a : List Nat) : (mkS a).length = a.length := by simp [mkS, Str.length]
theorem ops_catS {K : PySem.W.Frag} : OpS K (fun x y H Q => ∃ i j, x = .str i ∧ y = .str j ∧ i.length + j.length ≤ sizeLine ∧ Q (.str (i ++ j)) H) oCatS := by
  intro F H x y v u Q k s r1 r2 h c
  cases x <;> first | exact (show False from h).elim | skip
  cases y <;> first | exact (show False from h).elim | skip
  rename_i a b
  obtain rfl := r1
  obtain rfl := r2
  refine ⟨_, _, rfl, rfl, by rw [mkS_len, mkS_len, sizeLine_eq]; exact h.1, ?_⟩
  rw [mkS_app]
  exact c _ H (.str (a ++ b)) F (.refl _ _) rfl h.2
/-- list + list -/
def oCatL : DOp := fun x y Q => match x, y with
  | .lst a, .lst b => a.length + b.length ≤ 16777216 ∧ Q (.lst (a ++ b))
  | _, _ => False
theorem ops_catL {K : PySem.W.Frag} : OpS K rCat oCatL := by
  intro F H x y v u Q k s r1 r2 h c
  cases x <;> first | exact (show False from h).elim | skip
  cases y <;> first | exact (show False from h).elim | skip
  rename_i xs ys
  unfold Rep at r1 r2
  obtain ⟨a, vs, rfl, e1, q1⟩ := r1
  obtain ⟨b, us, rfl, e2, q2⟩ := r2
  refine ⟨a, b, vs, us, rfl, rfl, s _ _ e1, s _ _ e2, by rw [← q1.len, ← q2.len, sizeLine_eq]; exact h.1, fun p hp => ?_⟩
  have g : Grow F H (upd F p (.lst (vs ++ us))) (upd H p (.lst (vs ++ us))) := .one hp
  refine c _ _ (.lst (xs ++ ys)) _ g ?_ h.2
  unfold Rep
  exact ⟨p, _, rfl, upd_same, RepL.sub (g.sub s) _ _ (q1.app q2)⟩
/-- tuple + tuple -/
def oCatT : DOp := fun x y Q => match x, y with
  | .tup a, .tup b => a.length + b.length ≤ 16777216 ∧ Q (.tup (a ++ b))
  | _, _ => False
theorem RepL.isNil {K : PySem.W.Frag} {F : Hp} {ds : List D} (h : RepL K F ds []) : ds = [] := by
  have := h.len
  cases ds with
  | nil => rfl
  | cons _ _ => simp at this
theorem ops_catT {K : PySem.W.Frag} : OpS K (rCatA K) oCatT := by
  intro F H x y v u Q k s r1 r2 h c
  cases x <;> first | exact (show False from h).elim | skip
  cases y <;> first | exact (show False from h).elim | skip
  rename_i xs ys
  unfold Rep at r1 r2
  obtain ⟨a, vs, rfl, e1, q1⟩ := r1
  obtain ⟨b, us, rfl, e2, q2⟩ := r2
  refine ⟨a, b, vs, us, rfl, rfl, e1.sq s, e2.sq s, by rw [← q1.len, ← q2.len, sizeLine_eq]; exact h.1, fun z => ?_, fun z1 z2 => ?_, fun z1 z2 p hp => ?_⟩
  · subst z
    obtain rfl := q1.isNil
    exact c _ H (.tup ys) F (.refl _ _) (by unfold Rep; exact ⟨b, us, rfl, e2, q2⟩) h.2
  · subst z2
    obtain rfl := q2.isNil
    exact c _ H (.tup xs) F (.refl _ _) (by unfold Rep; exact ⟨a, vs, rfl, e1, q1⟩) (by have := h.2; rwa [List.append_nil] at this)
  · have g : Grow F H (upd F p (.tup (vs ++ us))) (upd H p (.tup (vs ++ us))) := .one hp
    refine c _ _ (.tup (xs ++ ys)) _ g ?_ h.2
    unfold Rep
    exact ⟨p, _, rfl, .inl upd_same, RepL.sub (g.sub s) _ _ (q1.app q2)⟩
abbrev oAddI : DOp := oI0 (fun i j => .int (i + j))
def oAdd : DOp := fun x y Q => match x, y with
  | .int i, .int j => Q (.int (i + j))
  | .str a, .str b => a.length + b.length ≤ 16777216 ∧ Q (.str (a ++ b))
  | .lst a, .lst b => a.length + b.length ≤ 16777216 ∧ Q (.lst (a ++ b))
  | .tup a, .tup b => a.length + b.length ≤ 16777216 ∧ Q (.tup (a ++ b))
  | _, _ => False
theorem oAdd_or (x y : D) (Q : D → Prop) (h : oAdd x y Q) : oAddI x y Q ∨ oCatS x y Q ∨ oCatL x y Q ∨ oCatT x y Q := by
  cases x <;> cases y <;> first | exact (show False from h).elim | skip
  · exact .inl h
  · exact .inr (.inl h)
  · exact .inr (.inr (.inr h))
  · exact .inr (.inr (.inl h))
theorem pd_add {wa wb : DE} (ha : PD X n a wa) (hb : PD X n b wb) : PD X n (.BinOp a .Add b pos) (wOp oAdd wa wb) :=
  pd_op (op_add.or (op_add_str.or (op_cat.or op_catA))) (((ops_I0 (g' := fun i j => .int (i + j)) fun _ _ _ => rfl).or (ops_catS.or (ops_catL.or ops_catT))).imp oAdd_or) ha hb
def oSub : DOp := oI0 (fun i j => .int (i - j))
theorem pd_sub {wa wb : DE} (ha : PD X n a wa) (hb : PD X n b wb) : PD X n (.BinOp a .Sub b pos) (wOp oSub wa wb) := pd_op op_sub (ops_I0 fun _ _ _ => rfl) ha hb
/-- products together below a million bits -/
def oMulI : DOp := oI (fun i j => .int (i * j)) CMulW
def oMod : DOp := oI (fun i j => .int (i % j)) fun _ j => 0 < j
theorem pd_mulI {wa wb : DE} (ha : PD X n a wa) (hb : PD X n b wb) : PD X n (.BinOp a .Mult b pos) (wOp oMulI wa wb) := pd_op op_mulW (ops_I fun _ _ _ => rfl) ha hb
theorem pd_mod {wa wb : DE} (ha : PD X n a wa) (hb : PD X n b wb) : PD X n (.BinOp a .Mod b pos) (wOp oMod wa wb) := pd_op op_mod (ops_I fun _ _ _ => rfl) ha hb
def oFdiv : DOp := oI (fun i j => .int (i / j)) CDivW
theorem pd_fdiv {wa wb : DE} (ha : PD X n a wa) (hb : PD X n b wb) : PD X n (.BinOp a .FloorDiv b pos) (wOp oFdiv wa wb) := pd_op op_fdivW (ops_I fun _ _ _ => rfl) ha hb
def oPow : DOp := oI (fun i j => .int (i ^ j.toNat)) CPow
theorem pd_pow {wa wb : DE} (ha : PD X n a wa) (hb : PD X n b wb) : PD X n (.BinOp a .Pow b pos) (wOp oPow wa wb) := pd_op op_pow (ops_I fun _ _ _ => rfl) ha hb
def oLt : DOp := oI0 fun i j => .bl (decide (i < j))
def oLe : DOp := oI0 fun i j => .bl (decide (i ≤ j))
def oGt : DOp := oI0 fun i j => .bl (decide (j < i))
def oGe : DOp := oI0 fun i j => .bl (decide (j ≤ i))
theorem ops_lt {K : PySem.W.Frag} : OpS K (rI0 fun i j => .bl (decide (i < j))) oLt := ops_I0 fun _ _ _ => rfl
theorem ops_le {K : PySem.W.Frag} : OpS K (rI0 fun i j => .bl (decide (i ≤ j))) oLe := ops_I0 fun _ _ _ => rfl
theorem ops_gt {K : PySem.W.Frag} : OpS K (rI0 fun i j => .bl (decide (j < i))) oGt := ops_I0 fun _ _ _ => rfl
theorem ops_ge {K : PySem.W.Frag} : OpS K (rI0 fun i j => .bl (decide (j ≤ i))) oGe := ops_I0 fun _ _ _ => rfl
theorem pd_lt {wa wb : DE} (ha : PD X n a wa) (hb : PD X n b wb) : PD X n (.Compare a [.Lt] [b] pos) (wOp oLt wa wb) := pd_cmp op_lt ops_lt (nomark _) ha hb
theorem pd_le {wa wb : DE} (ha : PD X n a wa) (hb : PD X n b wb) : PD X n (.Compare a [.LtE] [b] pos) (wOp oLe wa wb) := pd_cmp op_le ops_le (nomark _) ha hb
theorem pd_gt {wa wb : DE} (ha : PD X n a wa) (hb : PD X n b wb) : PD X n (.Compare a [.Gt] [b] pos) (wOp oGt wa wb) := pd_cmp op_gt ops_gt (nomark _) ha hb
theorem pd_ge {wa wb : DE} (ha : PD X n a wa) (hb : PD X n b wb) : PD X n (.Compare a [.GtE] [b] pos) (wOp oGe wa wb) := pd_cmp op_ge ops_ge (nomark _) ha hb
mutual
def pyD : D → Option PyData
  | .non => some .none
  | .bl b => some (.bool b)
  | .int i => some (.int i)
  | .str x => some (.str (mkS x))
  | .tup xs => (pyL xs).map .tuple
  | .lst xs => (pyL xs).map .list
  | .dic _ _ => none
  | .ins _ _ _ => none
  | .ty _ => none
  | .cls _ => none
def pyL : List D → Option (List PyData)
  | [] => some []
  | d :: ds => match pyD d, pyL ds with
    | some x, some xs => some (x :: xs)
    | _, _ => none
end
mutual
theorem rep_dp {K : PySem.W.Frag} {F H : Hp} (s : SubH F H) : ∀ (d : D) (p : PyData) (v : V), pyD d = some p → Rep K F d v → Dp K H v p
  | .non, p, v, e, r => by
    unfold pyD at e; cases e
    obtain rfl := r
    exact .non
  | .bl b, p, v, e, r => by
    unfold pyD at e; cases e
    obtain rfl := r
    exact .bl b
  | .int i, p, v, e, r => by
    unfold pyD at e; cases e
    obtain rfl := r
    exact .int i
  | .str x, p, v, e, r => by
    unfold pyD at e; cases e
    obtain rfl := r
    exact .str _
  | .tup xs, p, v, e, r => by
    unfold pyD at e
    cases q : pyL xs with
    | none => rw [q] at e; cases e
    | some ps =>
      rw [q] at e; cases e
      unfold Rep at r
      obtain ⟨a, vs, rfl, h1, h2⟩ := r
      exact .tup (h1.sq s) (rep_dpL s xs ps vs q h2)
  | .lst xs, p, v, e, r => by
    unfold pyD at e
    cases q : pyL xs with
    | none => rw [q] at e; cases e
    | some ps =>
      rw [q] at e; cases e
      unfold Rep at r
      obtain ⟨a, vs, rfl, h1, h2⟩ := r
      exact .lst (.of (s _ _ h1)) (rep_dpL s xs ps vs q h2)
  | .dic _ _, p, v, e, r => by unfold pyD at e; cases e
  | .ins _ _ _, p, v, e, r => by unfold pyD at e; cases e
  | .ty _, p, v, e, r => by unfold pyD at e; cases e
  | .cls _, p, v, e, r => by unfold pyD at e; cases e
theorem rep_dpL {K : PySem.W.Frag} {F H : Hp} (s : SubH F H) : ∀ (ds : List D) (ps : List PyData) (vs : List V), pyL ds = some ps → RepL K F ds vs → DpAll K H vs ps
  | [], ps, vs, e, r => by
    unfold pyL at e; cases e
    unfold RepL at r; subst r
    exact .nil
  | d :: ds, ps, vs, e, r => by
    unfold pyL at e
    cases q : pyD d with
    | none => rw [q] at e; cases e
    | some p =>
      cases q2 : pyL ds with
      | none => rw [q, q2] at e; cases e
      | some ps' =>
        rw [q, q2] at e; cases e
        unfold RepL at r
        obtain ⟨v, t, rfl, h1, h2⟩ := r
        exact .cons (rep_dp s d p v q h1) (rep_dpL s ds ps' t q2 h2)
end
structure oEq (x y : D) (Q : D → Prop) : Prop where
  ex : ∃ p q, pyD x = some p ∧ pyD y = some q ∧ SeqAt.shaped p = true ∧ SeqAt.shaped q = true ∧ Q (.bl (PyData.eqv p q))
structure oNe (x y : D) (Q : D → Prop) : Prop where
  ex : ∃ p q, pyD x = some p ∧ pyD y = some q ∧ SeqAt.shaped p = true ∧ SeqAt.shaped q = true ∧ Q (.bl (!PyData.eqv p q))
theorem ops_eq {K : PySem.W.Frag} : OpS K (rEqD K) oEq := by
  intro F H x y v u Q k s r1 r2 h c
  obtain ⟨p, q, e1, e2, s1, s2, z⟩ := h.ex
  exact ⟨p, q, rep_dp s x p v e1 r1, rep_dp s y q u e2 r2, s1, s2, c _ H (.bl _) F (.refl _ _) rfl z⟩
theorem ops_ne {K : PySem.W.Frag} : OpS K (rNeD K) oNe := by
  intro F H x y v u Q k s r1 r2 h c
  obtain ⟨p, q, e1, e2, s1, s2, z⟩ := h.ex
  exact ⟨p, q, rep_dp s x p v e1 r1, rep_dp s y q u e2 r2, s1, s2, c _ H (.bl _) F (.refl _ _) rfl z⟩
theorem pd_eq {wa wb : DE} {k : Nat} (hr : Room k X.A) (ha : PD X n a wa) (hb : PD X n b wb) : PD X n (.Compare a [.Eq] [b] pos) (wOp oEq wa wb) := pd_cmp (op_eqD hr.units) ops_eq (nomark _) ha hb
theorem pd_ne {wa wb : DE} {k : Nat} (hr : Room k X.A) (ha : PD X n a wa) (hb : PD X n b wb) : PD X n (.Compare a [.NotEq] [b] pos) (wOp oNe wa wb) := pd_cmp (op_neD hr.units) ops_ne (nomark _) ha hb
end
end Dl
namespace Dl
open PySem PySem.Spec PyProof.Rows L2
section
variable {X : Cx} {K : PySem.W.Frag} {n : En} {e a b : Expr} {es : List Expr} {pos : Pos}

def wNil : DA := fun st Q _ => Q [] st
def wCons (wa : DE) (wr : DA) : DA := fun st Q E => wa st (fun w st1 => wr st1 (fun ws st2 => Q (w :: ws) st2) E) E
theorem pad_nil : PAD X n [] wNil := pad_of pa_nil fun σ H F ρ st Q E R tk hw => ⟨[], st, F, ρ, Post.refl _ _ _, R, rfl, hw⟩
theorem pad_cons {wa : DE} {wr : DA} (ha : PD X n e wa) (hr : PAD X n es wr) (hs : starEach (e :: es) X.env = (false, eval e X.env) :: starEach es X.env := by rfl) : PAD X n (e :: es) (wCons wa wr) :=
  pad_of (pa_cons ha.pe hr.pa hs) fun σ H F ρ st Q E R tk hw => by
    refine tE.use R tk hw fun v w1 st1 H1 F1 ρ1 p1 R1 r1 h1 => ?_
    refine tA.use R1 tk h1 fun vs ws st2 H2 F2 ρ2 p2 R2 r2 h2 => ?_
    exact ⟨w1 :: ws, st2, F2, ρ2, p1.trans p2 R1.ok.dom, R2, ⟨v, vs, rfl, r1.post p2, r2⟩, h2⟩
/-- all of them data -/
def datas : List W → Option (List D)
  | [] => some []
  | .d x :: ws => match datas ws with
    | some xs => some (x :: xs)
    | none => none
  | .loc _ :: _ => none
  | .scr _ :: _ => none
theorem datas_map : ∀ {ws : List W} {xs : List D}, datas ws = some xs → ws = xs.map W.d
  | [], xs, h => by cases h; rfl
  | .d x :: ws, xs, h => by
    unfold datas at h
    cases e : datas ws with
    | none => rw [e] at h; cases h
    | some ys =>
      rw [e] at h; cases h
      rw [datas_map e]; rfl
  | .loc _ :: _, _, h => by cases h
  | .scr _ :: _, _, h => by cases h
theorem datas_of : ∀ (xs : List D), datas (xs.map W.d) = some xs
  | [] => rfl
  | x :: xs => by
    show datas (W.d x :: xs.map W.d) = _
    unfold datas
    rw [datas_of xs]
def wTup (wr : DA) : DE := fun st Q E => wr st (fun ws st1 => match datas ws with
  | some xs => xs.length ≤ 16777216 ∧ Q (.d (.tup xs)) st1
  | none => False) E
def wLst (wr : DA) : DE := fun st Q E => wr st (fun ws st1 => match datas ws with
  | some xs => xs.length ≤ 16777216 ∧ Q (.d (.lst xs)) st1
  | none => False) E
theorem pd_tup {k : Nat} {wr : DA} (h : PAD X n es wr) : PD X n (.Tuple es k pos) (wTup wr) :=
  pd_of (pe_tup h.pa) fun σ H F ρ st Q E R tk hw => by
    refine tA.use R tk hw fun vs ws st1 H1 F1 ρ1 p1 R1 r1 h1 => ?_
    cases e : datas ws with
    | none => rw [e] at h1; exact h1.elim
    | some xs =>
      rw [e] at h1
      rw [datas_map e] at r1
      have q := r1.ofD
      refine ⟨by rw [← q.len, sizeLine_eq]; exact h1.1, fun p hp => ?_⟩
      have g : Grow F1 H1 (upd F1 p (.tup vs)) (upd H1 p (.tup vs)) := .one hp
      obtain ⟨p2, R2⟩ := R1.grow g
      refine ⟨.d (.tup xs), st1, _, _, p1.trans p2 R1.ok.dom, R2, ?_, h1.2⟩
      show Rep _ _ (.tup xs) _
      unfold Rep
      exact ⟨p, vs, rfl, .inl upd_same, RepL.sub p2.le _ _ q⟩
theorem pd_lst {wr : DA} (h : PAD X n es wr) : PD X n (.List es pos) (wLst wr) :=
  pd_of (pe_lst h.pa) fun σ H F ρ st Q E R tk hw => by
    refine tA.use R tk hw fun vs ws st1 H1 F1 ρ1 p1 R1 r1 h1 => ?_
    cases e : datas ws with
    | none => rw [e] at h1; exact h1.elim
    | some xs =>
      rw [e] at h1
      rw [datas_map e] at r1
      have q := r1.ofD
      refine ⟨by rw [← q.len, sizeLine_eq]; exact h1.1, fun p hp => ?_⟩
      have g : Grow F1 H1 (upd F1 p (.lst vs)) (upd H1 p (.lst vs)) := .one hp
      obtain ⟨p2, R2⟩ := R1.grow g
      refine ⟨.d (.lst xs), st1, _, _, p1.trans p2 R1.ok.dom, R2, ?_, h1.2⟩
      show Rep _ _ (.lst xs) _
      unfold Rep
      exact ⟨p, vs, rfl, upd_same, RepL.sub p2.le _ _ q⟩

abbrev DCall := List D → (D → Prop) → Prop
def CallS (K : PySem.W.Frag) (r : List V → Hp → VK → Prop) (o : DCall) : Prop := ∀ (F H : Hp) (xs : List D) (vs : List V) (Q : D → Prop) (k : VK), SubH F H → RepL K F xs vs → o xs Q → (∀ z H' d F', Grow F H F' H' → Rep K F' d z → Q d → k z H') → r vs H k
def wCall (o : DCall) (wr : DA) : DE := fun st Q E => wr st (fun ws st1 => match datas ws with
  | some xs => o xs fun z => Q (.d z) st1
  | none => False) E
theorem call_sim {r : List V → Hp → VK → Prop} {o : DCall} {wr : DA} (s : CallS X.K r o) {σ : L2.St} {H F : Hp} {ρ : List Addr} {st : Dst} {Q : DQ} {E : DX} (R : Rl X.K n F ρ st σ H) (tk : TkD X n E) (h : wCall o wr st Q E) :
    tCB r (tA X n wr) σ H (qE X n σ F ρ H Q) := by
  refine tA.use R tk h fun vs ws st1 H1 F1 ρ1 p1 R1 r1 h1 => ?_
  cases e : datas ws with
  | none => rw [e] at h1; exact h1.elim
  | some xs =>
    rw [e] at h1
    rw [datas_map e] at r1
    refine s F1 H1 xs vs _ _ R1.ok.sub r1.ofD h1 fun z H' d F' g rz q => ?_
    obtain ⟨p3, R3⟩ := R1.grow g
    exact ⟨.d d, st1, F', ρ1, p1.trans p3 R1.ok.dom, R3, rz, q⟩
theorem CallS.or {K : PySem.W.Frag} {r r' : List V → Hp → VK → Prop} {o o' : DCall} (a : CallS K r o) (b : CallS K r' o') : CallS K (fun x H Q => r x H Q ∨ r' x H Q) (fun x Q => o x Q ∨ o' x Q) :=
  fun F H xs vs Q k s r1 h c => h.elim (fun z => .inl (a F H xs vs Q k s r1 z c)) (fun z => .inr (b F H xs vs Q k s r1 z c))
theorem CallS.imp {K : PySem.W.Frag} {r : List V → Hp → VK → Prop} {o o' : DCall} (a : CallS K r o) (h : ∀ x Q, o' x Q → o x Q) : CallS K r o' :=
  fun F H xs vs Q k s r1 z c => a F H xs vs Q k s r1 (h xs Q z) c
theorem callR_or {f : Value} {r r' : List V → Hp → VK → Prop} (h : CallR X f r) (h' : CallR X f r') : CallR X f (fun x H Q => r x H Q ∨ r' x H Q) := by
  intro pins s σ H xs us Q I rx q
  rcases q with q | q
  · exact h pins s σ H xs us Q I rx q
  · exact h' pins s σ H xs us Q I rx q
theorem pd_callB {x : Str} {p : Pos} {id : String} {r : List V → Hp → VK → Prop} {o : DCall} {wr : DA} (hc : CallR X (.builtin id) r) (s : CallS X.K r o) (hg : Gl X x) (hm : X.mg x = none) (hv : bootBuiltins x = some (.builtin id)) (ha : PAD X n (e :: es) wr)
    (hn : x ≠ "__name__" := by decide) (hdb : (x == ("__debug__" : Str)) = false := by decide)
    (he : starEach (e :: es) X.env = (false, eval e X.env) :: starEach es X.env := by rfl) (hpl : (backTo pos (starEach es X.env)).any (·.1) = false := by rfl) : PD X n (.Call (.Name x p) (e :: es) [] pos) (wCall o wr) :=
  pd_of (pe_callB hc hg hm hv ha.pa hn hdb he hpl) fun _ _ _ _ _ _ _ R tk hw => call_sim s R tk hw
theorem pd_callTy {x : Str} {p : Pos} {T : String} {r : List V → Hp → VK → Prop} {o : DCall} {wr : DA} (hc : CallR X (.type T) r) (s : CallS X.K r o) (hg : Gl X x) (hm : X.mg x = none) (hv : bootBuiltins x = some (.type T)) (ha : PAD X n (e :: es) wr)
    (hn : x ≠ "__name__" := by decide) (hdb : (x == ("__debug__" : Str)) = false := by decide)
    (he : starEach (e :: es) X.env = (false, eval e X.env) :: starEach es X.env := by rfl) (hpl : (backTo pos (starEach es X.env)).any (·.1) = false := by rfl) : PD X n (.Call (.Name x p) (e :: es) [] pos) (wCall o wr) :=
  pd_of (pe_callTy hc hg hm hv ha.pa hn hdb he hpl) fun _ _ _ _ _ _ _ R tk hw => call_sim s R tk hw
/-- len -/
def oLen : DCall := fun xs Q => match xs with
  | [.lst ys] => Q (.int ys.length)
  | [.tup ys] => Q (.int ys.length)
  | [.str x] => x.length ≤ 16777216 ∧ Q (.int x.length)
  | _ => False
theorem repL1 {K : PySem.W.Frag} {F : Hp} {d : D} {vs : List V} (h : RepL K F [d] vs) : ∃ v, vs = [v] ∧ Rep K F d v := by
  unfold RepL at h
  obtain ⟨v, r, rfl, q, t⟩ := h
  unfold RepL at t; subst t
  exact ⟨v, rfl, q⟩
theorem repL2 {K : PySem.W.Frag} {F : Hp} {d e : D} {vs : List V} (h : RepL K F [d, e] vs) : ∃ v u, vs = [v, u] ∧ Rep K F d v ∧ Rep K F e u := by
  unfold RepL at h
  obtain ⟨v, r, rfl, q, t⟩ := h
  obtain ⟨u, rfl, q2⟩ := repL1 t
  exact ⟨v, u, rfl, q, q2⟩
def rLen2 (K : PySem.W.Frag) : List V → Hp → VK → Prop := fun xs H Q => (∃ p ys, xs = [.ref p] ∧ (SqL K H p ys ∨ SqT K H p ys) ∧ Q (.int ys.length) H) ∨ (∃ z, xs = [.str z] ∧ z.length ≤ sizeLine ∧ Q (.int z.length) H)
theorem call_len2 : CallR X (.builtin "len") (rLen2 X.K) := callR_or call_len_seq call_len_str
theorem calls_len {K : PySem.W.Frag} : CallS K (rLen2 K) oLen := by
  intro F H xs vs Q k s r h c
  unfold oLen at h
  split at h
  · obtain ⟨v, rfl, q⟩ := repL1 r
    unfold Rep at q
    obtain ⟨a, us, rfl, e1, q⟩ := q
    refine .inl ⟨a, us, rfl, .inl (.of (s _ _ e1)), ?_⟩
    rw [← q.len]
    exact c _ H (.int _) F (.refl _ _) rfl h
  · obtain ⟨v, rfl, q⟩ := repL1 r
    unfold Rep at q
    obtain ⟨a, us, rfl, e1, q⟩ := q
    refine .inl ⟨a, us, rfl, .inr (e1.sq s), ?_⟩
    rw [← q.len]
    exact c _ H (.int _) F (.refl _ _) rfl h
  · obtain ⟨v, rfl, q⟩ := repL1 r
    obtain rfl := q
    refine .inr ⟨_, rfl, by rw [mkS_len, sizeLine_eq]; exact h.1, ?_⟩
    rw [mkS_len]
    exact c _ H (.int _) F (.refl _ _) rfl h.2
  · exact h.elim
/-- int of an int -/
def oIntI : DCall := fun xs Q => match xs with
  | [.int i] => Q (.int i)
  | [.bl b] => Q (.int (if b then 1 else 0))
  | _ => False
theorem calls_int {K : PySem.W.Frag} : CallS K (fun xs H Q => (∃ i, xs = [.int i] ∧ Q (.int i) H) ∨ ∃ k, xs = [.bl k] ∧ Q (.int (if k then 1 else 0)) H) oIntI := by
  intro F H xs vs Q k s r h c
  unfold oIntI at h
  split at h
  · obtain ⟨v, rfl, q⟩ := repL1 r
    obtain rfl := q
    exact .inl ⟨_, rfl, c _ H (.int _) F (.refl _ _) rfl h⟩
  · obtain ⟨v, rfl, q⟩ := repL1 r
    obtain rfl := q
    exact .inr ⟨_, rfl, c _ H (.int _) F (.refl _ _) rfl h⟩
  · exact h.elim
/-- all, any of a list of bools -/
def bools : List D → Option (List Bool)
  | [] => some []
  | .bl b :: xs => match bools xs with
    | some bs => some (b :: bs)
    | none => none
  | _ :: _ => none
theorem bools_rep {K : PySem.W.Frag} {F : Hp} : ∀ {xs : List D} {bs : List Bool} {vs : List V}, bools xs = some bs → RepL K F xs vs → vs = bs.map V.bl
  | [], bs, vs, e, r => by cases e; unfold RepL at r; exact r
  | .bl b :: xs, bs, vs, e, r => by
    unfold bools at e
    cases q : bools xs with
    | none => rw [q] at e; cases e
    | some cs =>
      rw [q] at e; cases e
      unfold RepL at r
      obtain ⟨v, t, rfl, h1, h2⟩ := r
      obtain rfl := h1
      rw [bools_rep q h2]; rfl
  | .non :: _, _, _, e, _ => by cases e
  | .int _ :: _, _, _, e, _ => by cases e
  | .str _ :: _, _, _, e, _ => by cases e
  | .tup _ :: _, _, _, e, _ => by cases e
  | .lst _ :: _, _, _, e, _ => by cases e
  | .dic _ _ :: _, _, _, e, _ => by cases e
  | .ins _ _ _ :: _, _, _, e, _ => by cases e
  | .ty _ :: _, _, _, e, _ => by cases e
  | .cls _ :: _, _, _, e, _ => by cases e
def oAll : DCall := fun xs Q => match xs with
  | [.lst ys] => ∃ bs, bools ys = some bs ∧ Q (.bl (bs.all id))
  | _ => False
def oAny : DCall := fun xs Q => match xs with
  | [.lst ys] => ∃ bs, bools ys = some bs ∧ Q (.bl (bs.any id))
  | _ => False
theorem calls_all {K : PySem.W.Frag} : CallS K (rAll K) oAll := by
  intro F H xs vs Q k s r h c
  unfold oAll at h
  split at h
  · obtain ⟨v, rfl, q⟩ := repL1 r
    unfold Rep at q
    obtain ⟨a, us, rfl, e1, q⟩ := q
    obtain ⟨bs, e2, z⟩ := h
    have e3 := bools_rep e2 q
    subst e3
    exact ⟨a, bs, rfl, .of (s _ _ e1), c _ H (.bl _) F (.refl _ _) rfl z⟩
  · exact h.elim
theorem calls_any {K : PySem.W.Frag} : CallS K (rAny K) oAny := by
  intro F H xs vs Q k s r h c
  unfold oAny at h
  split at h
  · obtain ⟨v, rfl, q⟩ := repL1 r
    unfold Rep at q
    obtain ⟨a, us, rfl, e1, q⟩ := q
    obtain ⟨bs, e2, z⟩ := h
    have e3 := bools_rep e2 q
    subst e3
    exact ⟨a, bs, rfl, .of (s _ _ e1), c _ H (.bl _) F (.refl _ _) rfl z⟩
  · exact h.elim
/-- list(xs), list(t) -/
def oListOf : DCall := fun xs Q => match xs with
  | [.lst ys] => Q (.lst ys)
  | [.tup ys] => Q (.lst ys)
  | _ => False
theorem calls_listOf {K : PySem.W.Frag} : CallS K (fun xs H Q => ∃ p ys, xs = [.ref p] ∧ (SqL K H p ys ∨ SqT K H p ys) ∧ ∀ l, H l = none → Q (.ref l) (upd H l (.lst ys))) oListOf := by
  intro F H xs vs Q k s r h c
  have go : ∀ (ys : List D) (us : List V) (l : Addr), RepL K F ys us → H l = none → Q (.lst ys) → k (.ref l) (upd H l (.lst us)) := fun ys us l q hl z => by
    have g : Grow F H (upd F l (.lst us)) (upd H l (.lst us)) := .one hl
    refine c _ _ (.lst ys) _ g ?_ z
    unfold Rep
    exact ⟨l, us, rfl, upd_same, RepL.sub (g.sub s) _ _ q⟩
  unfold oListOf at h
  split at h
  · obtain ⟨v, rfl, q⟩ := repL1 r
    unfold Rep at q
    obtain ⟨a, us, rfl, e1, q⟩ := q
    exact ⟨a, us, rfl, .inl (.of (s _ _ e1)), fun l hl => go _ _ l q hl h⟩
  · obtain ⟨v, rfl, q⟩ := repL1 r
    unfold Rep at q
    obtain ⟨a, us, rfl, e1, q⟩ := q
    exact ⟨a, us, rfl, .inr (e1.sq s), fun l hl => go _ _ l q hl h⟩
  · exact h.elim
/-- tuple(xs), tuple(t) -/
def oTupOf : DCall := fun xs Q => match xs with
  | [.lst ys] => Q (.tup ys)
  | [.tup ys] => Q (.tup ys)
  | _ => False
theorem calls_tupOf {K : PySem.W.Frag} : CallS K (fun xs H Q => ∃ p ys, xs = [.ref p] ∧ ((SqL K H p ys ∧ ∀ l, H l = none → Q (.ref l) (upd H l (.tup ys))) ∨ (SqT K H p ys ∧ Q (.ref p) H))) oTupOf := by
  intro F H xs vs Q k s r h c
  unfold oTupOf at h
  split at h
  · obtain ⟨v, rfl, q⟩ := repL1 r
    unfold Rep at q
    obtain ⟨a, us, rfl, e1, q⟩ := q
    refine ⟨a, us, rfl, .inl ⟨.of (s _ _ e1), fun l hl => ?_⟩⟩
    have g : Grow F H (upd F l (.tup us)) (upd H l (.tup us)) := .one hl
    refine c _ _ (.tup _) _ g ?_ h
    unfold Rep
    exact ⟨l, us, rfl, .inl upd_same, RepL.sub (g.sub s) _ _ q⟩
  · obtain ⟨v, rfl, q⟩ := repL1 r
    unfold Rep at q
    obtain ⟨a, us, rfl, e1, q⟩ := q
    refine ⟨a, us, rfl, .inr ⟨e1.sq s, c _ H (.tup _) F (.refl _ _) ?_ h⟩⟩
    unfold Rep
    exact ⟨a, us, rfl, e1, q⟩
  · exact h.elim

/-- the type of a value -/
inductive Ty where
  | ty (n : String) | own (c : Str)
  deriving DecidableEq
def tyOf : D → Option Ty
  | .non => some (.ty "NoneType")
  | .bl _ => some (.ty "bool")
  | .int _ => some (.ty "int")
  | .str _ => some (.ty "str")
  | .tup _ => some (.ty "tuple")
  | .lst _ => some (.ty "list")
  | .dic _ _ => none
  | .ins c _ _ => some (.own c)
  | .ty _ => none
  | .cls _ => none
def Ty.v (K : PySem.W.Frag) : Ty → Value
  | .ty n => .type n
  | .own c => .ref (He.ga K c)
/-- what isinstance asks of an own class beside Cls -/
structure ClsI (K : PySem.W.Frag) (c : Str) : Prop where
  cl : Cls K (He.ga K c)
  ha : PySem.W.findIn K (.ref (He.ga K c)) "__class__" = some (some (.builtin "object.__class__"))
  hn : PySem.W.specialIn K (.builtin "object.__class__") "__get__" = some (some (.builtin "getset_descriptor.__get__"))
  htk : PySem.W.takesIn K (.builtin "object.__class__") = some true
  hm : PySem.W.mroIn K (He.ga K c) (.type "object") = some true
def TyGood (K : PySem.W.Frag) : Ty → Prop
  | .ty _ => True
  | .own c => ClsI K c
theorem tyX_of {K : PySem.W.Frag} {F H : Hp} {d : D} {v : V} {t : Ty} (s : SubH F H) (r : Rep K F d v) (e : tyOf d = some t) (g : TyGood K t) : TyX K H v (t.v K) := by
  cases d with
  | non => cases e; obtain rfl := r; exact .base .non
  | bl b => cases e; obtain rfl := r; exact .base (.bl b)
  | int i => cases e; obtain rfl := r; exact .base (.int i)
  | str x => cases e; obtain rfl := r; exact .base (.str _)
  | tup xs =>
    cases e
    unfold Rep at r
    obtain ⟨a, vs, rfl, h, _⟩ := r
    rcases h with h | ⟨o, its, m, h, hc, _⟩
    · exact .base (.tup (s _ _ h))
    · exact .kTuple h hc
  | lst xs =>
    cases e
    unfold Rep at r
    obtain ⟨a, vs, rfl, h, _⟩ := r
    exact .base (.lst (s _ _ h))
  | dic _ _ => cases e
  | ins c ks vs =>
    cases e
    unfold Rep at r
    obtain ⟨a, dx, fs, rfl, h, _⟩ := r
    have g : ClsI K c := g
    exact .base (.ins (s _ _ h) g.cl g.ha g.hn g.htk g.hm)
  | ty _ => cases e
  | cls _ => cases e
/-- classes as values -/
def clsOf : D → Option Ty
  | .ty n => some (.ty n)
  | .cls c => some (.own c)
  | _ => none
theorem clsV_of {K : PySem.W.Frag} {F : Hp} {d : D} {v : V} {t : Ty} (r : Rep K F d v) (e : clsOf d = some t) : ClsV v (t.v K) := by
  cases d <;> first | (cases e; done) | skip
  · cases e; obtain rfl := r; exact .ty _
  · cases e; obtain rfl := r; exact .own _
def clssOf : List D → Option (List Ty)
  | [] => some []
  | d :: ds => match clsOf d, clssOf ds with
    | some t, some ts => some (t :: ts)
    | _, _ => none
theorem clssV_of {K : PySem.W.Frag} {F : Hp} : ∀ {ds : List D} {vs : List V} {ts : List Ty}, RepL K F ds vs → clssOf ds = some ts → Paired ClsV vs (ts.map (Ty.v K))
  | [], vs, ts, r, e => by cases e; unfold RepL at r; subst r; exact .nil
  | d :: ds, vs, ts, r, e => by
    unfold clssOf at e
    cases h1 : clsOf d with
    | none => rw [h1] at e; cases e
    | some t =>
      cases h2 : clssOf ds with
      | none => rw [h1, h2] at e; cases e
      | some us =>
        rw [h1, h2] at e; cases e
        unfold RepL at r
        obtain ⟨v, rr, rfl, q, t'⟩ := r
        exact .cons (clsV_of q h1) (clssV_of t' h2)
/-- isinstance(x, c) with the answers that the text's classes give (ans: by facts of the head) -/
def oIsiB (ans : Ty → Ty → Option Bool) : DCall := fun xs Q => match xs with
  | [x, .tup cs] => ∃ t ts b, tyOf x = some t ∧ clssOf cs = some ts ∧ ts ≠ [] ∧ ts.foldr (fun c r => match ans t c, r with
      | some a, some b => some (a || b)
      | _, _ => none) (some false) = some b ∧ Q (.bl b)
  | [x, c] => ∃ t u b, tyOf x = some t ∧ clsOf c = some u ∧ ans t u = some b ∧ Q (.bl b)
  | _ => False
structure oIsi (ans : Ty → Ty → Option Bool) (xs : List D) (Q : D → Prop) : Prop where
  ex : oIsiB ans xs Q
/-- the answers are the written part's -/
structure AnsOk (K : PySem.W.Frag) (ans : Ty → Ty → Option Bool) : Prop where
  one : ∀ t c b, ans t c = some b → PySem.W.kitOne K (t.v K) (c.v K) = some b
  good : ∀ t c b, ans t c = some b → TyGood K t
def rIsi2 (K : PySem.W.Frag) : List V → Hp → VK → Prop := fun xs H Q => rIsi K xs H Q ∨ rIsiT K xs H Q ∨ rIsiK K xs H Q
theorem call_isi2 : CallR X (.builtin "isinstance") (rIsi2 X.K) := callR_or call_isi (callR_or call_isiT call_isiK)
theorem kit_any {K : PySem.W.Frag} {ans : Ty → Ty → Option Bool} (A : AnsOk K ans) {t : Ty} : ∀ {ts : List Ty} {b : Bool}, ts.foldr (fun c r => match ans t c, r with
      | some a, some b => some (a || b)
      | _, _ => none) (some false) = some b → PySem.W.kitAny K (t.v K) (ts.map (Ty.v K)) = some b
  | [], b, e => by cases e; rfl
  | c :: ts, b, e => by
    rw [List.foldr_cons] at e
    cases h1 : ans t c with
    | none => rw [h1] at e; cases e
    | some a =>
      cases h2 : ts.foldr (fun c r => match ans t c, r with
        | some a, some b => some (a || b)
        | _, _ => none) (some false) with
      | none => rw [h1, h2] at e; cases e
      | some b' =>
        rw [h1, h2] at e
        have e : some (a || b') = some b := e
        cases e
        refine kitAny_cons (A.one t c a h1) (fun z => ?_) (fun z => by rw [z]; rfl)
        subst z
        exact kit_any A h2
theorem calls_isi {K : PySem.W.Frag} {ans : Ty → Ty → Option Bool} (A : AnsOk K ans) : CallS K (rIsi2 K) (oIsi ans) := by
  intro F H xs vs Q k s r h c
  have h := h.ex
  unfold oIsiB at h
  split at h
  · rename_i x cs
    obtain ⟨v, u, rfl, q1, q2⟩ := repL2 r
    obtain ⟨t, ts, b, e1, e2, ne, e3, z⟩ := h
    have fin := c _ H (.bl b) F (.refl _ _) rfl z
    unfold Rep at q2
    obtain ⟨a, us, rfl, h1, h2⟩ := q2
    have g : TyGood K t := by
      cases ts with
      | nil => exact absurd rfl ne
      | cons c ts =>
        rw [List.foldr_cons] at e3
        cases h1 : ans t c with
        | none => rw [h1] at e3; cases e3
        | some a => exact A.good t c a h1
    have pv := clssV_of h2 e2
    rcases h1 with h1 | ⟨o, its, m, h1, hc, hd, _, hv⟩
    · exact .inr (.inl ⟨v, a, us, t.v K, _, b, rfl, s _ _ h1, pv, tyX_of s q1 e1 g, kit_any A e3, fin⟩)
    · obtain ⟨oc, od, dt, sl⟩ := o
      simp only at hc hd
      subst hc hd
      have e5 := ClsV.all pv hv
      refine .inr (.inr ⟨v, a, od, its.toList, m, sl, t.v K, b, rfl, by rw [h1], tyX_of s q1 e1 g, by rw [e5]; exact kit_any A e3, fin⟩)
  · rename_i x cl hne
    obtain ⟨v, u, rfl, q1, q2⟩ := repL2 r
    obtain ⟨t, w, b, e1, e2, e3, z⟩ := h
    exact .inl ⟨v, u, t.v K, w.v K, b, rfl, clsV_of q2 e2, tyX_of s q1 e1 (A.good _ _ _ e3), A.one _ _ _ e3, c _ H (.bl b) F (.refl _ _) rfl z⟩
  · exact h.elim
/-- the answers for built-in classes -/
def ansB : Ty → Ty → Option Bool
  | .ty t, .ty c => if ["NoneType", "bool", "int", "str", "tuple", "list"].contains t && ["bool", "int", "str", "tuple", "list"].contains c then some (t == c || (t == "bool" && c == "int")) else none
  | _, _ => none
theorem ansB_kit : (["NoneType", "bool", "int", "str", "tuple", "list"].all fun t => ["bool", "int", "str", "tuple", "list"].all fun c => decide (kitB t c = some (t == c || (t == "bool" && c == "int")))) = true := by decide +kernel
theorem ansB_ty {t c : Ty} {b : Bool} (h : ansB t c = some b) : ∃ x y, t = .ty x ∧ c = .ty y ∧ PySem.W.kitOne K (.type x) (.type y) = some b := by
  cases t with
  | own _ => exact nomatch (show (none : Option Bool) = some b from h)
  | ty t =>
    cases c with
    | own _ => exact nomatch (show (none : Option Bool) = some b from h)
    | ty c =>
      have h : (if ["NoneType", "bool", "int", "str", "tuple", "list"].contains t && ["bool", "int", "str", "tuple", "list"].contains c then some (t == c || (t == "bool" && c == "int")) else none) = some b := h
      by_cases hc : (["NoneType", "bool", "int", "str", "tuple", "list"].contains t && ["bool", "int", "str", "tuple", "list"].contains c) = true
      · rw [if_pos hc] at h
        rw [Bool.and_eq_true] at hc
        have h1 := List.all_eq_true.mp ansB_kit t (by simpa using hc.1)
        have h2 := List.all_eq_true.mp h1 c (by simpa using hc.2)
        exact ⟨t, c, rfl, rfl, kit_ty ((of_decide_eq_true h2).trans h)⟩
      · rw [if_neg hc] at h
        cases h
theorem ansB_ok (K : PySem.W.Frag) : AnsOk K ansB where
  one := fun t c b h => by
    obtain ⟨x, y, rfl, rfl, e⟩ := ansB_ty (K := K) h
    exact e
  good := fun t c b h => by
    obtain ⟨x, y, rfl, rfl, e⟩ := ansB_ty (K := K) h
    trivial
end
/-- the answers of a text: of built-in classes, of the table else -/
def ansW (tbl : List ((Ty × Ty) × Bool)) : Ty → Ty → Option Bool
  | .ty a, .ty b => ansB (.ty a) (.ty b)
  | t, c => tbl.lookup (t, c)
theorem ansW0_ok (K : PySem.W.Frag) : AnsOk K (ansW []) where
  one := fun t c b h => by
    cases t with
    | own _ => exact nomatch (show (none : Option Bool) = some b from h)
    | ty t =>
      cases c with
      | own _ => exact nomatch (show (none : Option Bool) = some b from h)
      | ty c => exact (ansB_ok K).one _ _ _ h
  good := fun t c b h => by
    cases t with
    | own _ => exact nomatch (show (none : Option Bool) = some b from h)
    | ty t =>
      cases c with
      | own _ => exact nomatch (show (none : Option Bool) = some b from h)
      | ty c => exact trivial
end Dl
namespace Dl
open PySem PySem.Spec PyProof.Rows L2
section
variable {X : Cx} {n : En} {e a b c : Expr} {es rest : List Expr} {pos : Pos}
/-- the place i of n, signs as Python has them -/
def atD {α : Type} (xs : List α) (i : Int) : Option α := atI xs i
def oIx : DOp := fun x y Q => match x, y with
  | .lst xs, .int i => match atI xs i with
    | some d => Q d
    | none => False
  | .tup xs, .int i => match atI xs i with
    | some d => Q d
    | none => False
  | .str xs, .int i => xs.length ≤ 16777216 ∧ match atI xs i with
    | some c => Q (.str [c])
    | none => False
  | _, _ => False
theorem atI_rep {K : PySem.W.Frag} {F : Hp} {xs : List D} {vs : List V} {i : Int} {d : D} (r : RepL K F xs vs) (h : atI xs i = some d) : ∃ v, atI vs i = some v ∧ Rep K F d v := by
  unfold atI at h ⊢
  rw [← r.len]
  cases e : ixN xs.length i with
  | none => rw [e] at h; cases h
  | some j =>
    rw [e] at h
    exact r.get h
theorem ops_ix {K : PySem.W.Frag} : OpS K (rIx K) oIx := by
  intro F H x y v u Q k s r1 r2 h c
  unfold oIx at h
  split at h
  · rename_i xs i
    obtain rfl := r2
    unfold Rep at r1
    obtain ⟨a, vs, rfl, e1, q⟩ := r1
    cases e : atI xs i with
    | none => rw [e] at h; exact h.elim
    | some d =>
      rw [e] at h
      obtain ⟨z, e2, rz⟩ := atI_rep q e
      exact .inl ⟨a, vs, i, z, rfl, rfl, .of (s _ _ e1), e2, c z H d F (.refl _ _) rz h⟩
  · rename_i xs i
    obtain rfl := r2
    unfold Rep at r1
    obtain ⟨a, vs, rfl, e1, q⟩ := r1
    cases e : atI xs i with
    | none => rw [e] at h; exact h.elim
    | some d =>
      rw [e] at h
      obtain ⟨z, e2, rz⟩ := atI_rep q e
      exact .inr (.inl ⟨a, vs, i, z, rfl, rfl, e1.sq s, e2, c z H d F (.refl _ _) rz h⟩)
  · rename_i xs i
    obtain rfl := r2
    obtain rfl := r1
    obtain ⟨hz, h⟩ := h
    cases e : atI xs i with
    | none => rw [e] at h; exact h.elim
    | some d =>
      rw [e] at h
      exact .inr (.inr ⟨_, i, d, rfl, rfl, by rw [mkS_len, sizeLine_eq]; exact hz, by simpa using e, c (.str ⟨#[d]⟩) H (.str [d]) F (.refl _ _) rfl h⟩)
  · exact h.elim
theorem pd_ix {wa wb : DE} (ha : PD X n a wa) (hb : PD X n b wb) (hs : PlainIx b := by exact fun _ _ => rfl) : PD X n (.Subscript a b pos) (wOp oIx wa wb) :=
  pd_of (pe_ix ix_seq ha.pe hb.pe hs) fun _ _ _ _ _ _ _ R tk hw => op_sim ops_ix R tk hw
def cutD {α : Type} (xs : List α) (lo hi : Option Int) : List α := (xs.drop (HT.sIx xs.length 0 lo)).take (HT.sIx xs.length xs.length hi - HT.sIx xs.length 0 lo)
abbrev DPo := Dst → (Option Int → Dst → Prop) → DX → Prop
structure POD (X : Cx) (n : En) (e : Option Expr) (w : DPo) : Prop where
  run : ∀ (pins : List (Addr × Obj)) (s : Shared) (σ : L2.St) (H F : Hp) (ρ : List Addr) (st : Dst) (Q : Option Int → Dst → Prop) (E : DX), Inv X pins σ H s → Rl X.K n F ρ st σ H → TkD X n E → w st Q E →
    wpAny (model X.prog X.w) X.A (evalPart e X.env) (fun u s' => ∃ o st' H' F' ρ', Inv X pins σ H' s' ∧ IsPart u o ∧ Post F ρ H F' ρ' H' ∧ Rl X.K n F' ρ' st' σ H' ∧ Q o st') X.xe s
def tO (X : Cx) (n : En) (w : DPo) : TO := fun σ H Q => ∃ F ρ st DQ E, Rl X.K n F ρ st σ H ∧ TkD X n E ∧ w st DQ E ∧
  ∀ o st' H' F' ρ', Post F ρ H F' ρ' H' → Rl X.K n F' ρ' st' σ H' → DQ o st' → Q o H'
theorem POD.po {e : Option Expr} {w : DPo} (h : POD X n e w) : PO X e (tO X n w) := by
  refine ⟨fun pins s σ H Q I ⟨F, ρ, st, DQ, E, R, tk, hw, k⟩ => ?_⟩
  refine thn (h.run pins s σ H F ρ st DQ E I R tk hw) fun u s1 ⟨o, st', H', F', ρ', I', r, a, b, d⟩ => ?_
  exact ⟨o, H', I', r, k o st' H' F' ρ' a b d⟩
def wNoPart : DPo := fun st Q _ => Q none st
def wPart (w : DE) : DPo := fun st Q E => w st (fun v st' => match v with
  | .d (.int i) => Q (some i) st'
  | _ => False) E
theorem pod_none : POD X n none wNoPart := ⟨fun pins s σ H F ρ st Q E I R tk hw => thn (po_none.run pins s σ H (fun o H' => o = none ∧ H' = H) I ⟨rfl, rfl⟩) fun u s1 ⟨o, H', I', r, e1, e2⟩ => by
  subst e1 e2
  exact ⟨none, st, _, F, ρ, I', r, Post.refl _ _ _, R, hw⟩⟩
theorem pod_some {w : DE} (h : PD X n e w) : POD X n (some e) (wPart w) := ⟨fun pins s σ H F ρ st Q E I R tk hw => by
  refine thn ((po_some h.pe).run pins s σ H (fun o H' => ∃ st' F' ρ', Post F ρ H F' ρ' H' ∧ Rl X.K n F' ρ' st' σ H' ∧ Q o st') I ?_) fun u s1 ⟨o, H', I', r, st', F', ρ', p, R', q⟩ => ⟨o, st', H', F', ρ', I', r, p, R', q⟩
  refine tE.use R tk hw fun v w1 st1 H1 F1 ρ1 p1 R1 r1 h1 => ?_
  split at h1
  · rename_i i
    obtain rfl := r1
    exact ⟨i, rfl, st1, F1, ρ1, p1, R1, h1⟩
  · exact h1.elim⟩
def oSl : D → Option Int → Option Int → (D → Prop) → Prop := fun x lo hi Q => match x with
  | .lst xs => Q (.lst (cutD xs lo hi))
  | .tup xs => Q (.tup (cutD xs lo hi))
  | .str xs => xs.length ≤ 16777216 ∧ Q (.str (cutD xs lo hi))
  | _ => False
def wSl (w : DE) (lo hi : DPo) : DE := fun st Q E => w st (fun v st1 => lo st1 (fun l st2 => hi st2 (fun h st3 => match v with
  | .d x => oSl x l h fun z => Q (.d z) st3
  | _ => False) E) E) E
theorem repL_cut {K : PySem.W.Frag} {F : Hp} {xs : List D} {vs : List V} (r : RepL K F xs vs) (lo hi : Option Int) : RepL K F (cutD xs lo hi) (cutV vs lo hi) := by
  unfold cutD cutV
  rw [← r.len]
  exact (r.drop _).take _
theorem cutS_mk (xs : List Nat) (lo hi : Option Int) : cutS (mkS xs) lo hi = mkS (cutD xs lo hi) := by
  unfold cutS cutD
  simp [mkS, Str.length]
def rSl3 (K : PySem.W.Frag) : V → Option Int → Option Int → Hp → VK → Prop := fun x lo hi H Q => rSlL K x lo hi H Q ∨ rSlA K x lo hi H Q ∨ rSlS x lo hi H Q
theorem sl_3 : SlR X (rSl3 X.K) := sl_list.or (sl_tupA.or sl_str)
theorem pd_slice {w : DE} {lo hi : Option Expr} {wl wh : DPo} {p2 : Pos} (h : PD X n e w) (hl : POD X n lo wl) (hh : POD X n hi wh) : PD X n (.Subscript e (.Slice lo hi none p2) pos) (wSl w wl wh) :=
  pd_of (pe_slice sl_3 h.pe hl.po hh.po) fun σ H F ρ st Q E R tk hw => by
    refine tE.use R tk hw fun v w1 st1 H1 F1 ρ1 p1 R1 r1 h1 => ?_
    refine ⟨F1, ρ1, st1, _, E, R1, tk, h1, fun l st2 H2 F2 ρ2 p2 R2 h2 => ?_⟩
    refine ⟨F2, ρ2, st2, _, E, R2, tk, h2, fun u st3 H3 F3 ρ3 p3 R3 h3 => ?_⟩
    cases w1 with
    | loc _ => exact h3.elim
    | scr _ => exact h3.elim
    | d x =>
      have r4 : Rep X.K F3 x v := Rep.sub p3.le x v (Rep.sub p2.le x v r1)
      clear r1
      have p13 := (p1.trans p2 R1.ok.dom).trans p3 R2.ok.dom
      have h4 : oSl x l u fun z => Q (.d z) st3 := h3
      clear h3
      unfold oSl at h4
      split at h4
      · rename_i xs
        unfold Rep at r4
        obtain ⟨a, vs, rfl, e1, q⟩ := r4
        refine .inl ⟨a, vs, rfl, .of (R3.ok.sub _ _ e1), fun p hp => ?_⟩
        have g : Grow F3 H3 (upd F3 p (.lst (cutV vs l u))) (upd H3 p (.lst (cutV vs l u))) := .one hp
        obtain ⟨p4, R4⟩ := R3.grow g
        refine ⟨.d (.lst (cutD xs l u)), st3, _, _, p13.trans p4 R3.ok.dom, R4, ?_, h4⟩
        show Rep _ _ (.lst _) _
        unfold Rep
        exact ⟨p, _, rfl, upd_same, RepL.sub p4.le _ _ (repL_cut q l u)⟩
      · rename_i xs
        unfold Rep at r4
        obtain ⟨a, vs, rfl, e1, q⟩ := r4
        refine .inr (.inl ⟨a, vs, rfl, e1.sq R3.ok.sub, fun hz => ?_, fun hz p hp => ?_⟩)
        · refine ⟨.d (.tup (cutD xs l u)), st3, F3, ρ3, p13, R3, ?_, h4⟩
          have e2 : cutD xs l u = xs := by
            unfold cutD
            rw [q.len, hz.1, hz.2, List.drop_zero, Nat.sub_zero, ← q.len, List.take_length]
          rw [e2]
          show Rep _ _ (.tup xs) _
          unfold Rep
          exact ⟨a, vs, rfl, e1, q⟩
        · have g : Grow F3 H3 (upd F3 p (.tup (cutV vs l u))) (upd H3 p (.tup (cutV vs l u))) := .one hp
          obtain ⟨p4, R4⟩ := R3.grow g
          refine ⟨.d (.tup (cutD xs l u)), st3, _, _, p13.trans p4 R3.ok.dom, R4, ?_, h4⟩
          show Rep _ _ (.tup _) _
          unfold Rep
          exact ⟨p, _, rfl, .inl upd_same, RepL.sub p4.le _ _ (repL_cut q l u)⟩
      · rename_i xs
        obtain rfl := r4
        refine .inr (.inr ⟨_, rfl, by rw [mkS_len, sizeLine_eq]; exact h4.1, ?_⟩)
        rw [cutS_mk]
        exact ⟨.d (.str (cutD xs l u)), st3, F3, ρ3, p13, R3, rfl, h4.2⟩
      · exact h4.elim

def wTest (w : DE) : DT := fun st Q E => w st (fun v st' => match v with
  | .d (.bl b) => Q b st'
  | _ => False) E
theorem bl_of {w1 : W} {Q : Bool → Dst → Prop} {st : Dst} {K : PySem.W.Frag} {F : Hp} {ρ : List Addr} {v : V} (h : match w1 with
  | .d (.bl b) => Q b st
  | _ => False) (r : RepW K F ρ w1 v) : ∃ b, v = .bl b ∧ Q b st := by
  split at h
  · rename_i b
    exact ⟨b, r, h⟩
  · exact h.elim
/-- a value as a test; the form of the syntax: not a comparison, not, and, or -/
theorem ptd_val {w : DE} (h : PD X n e w) (he : ∀ whole, isTrue e X.env whole = (do let v ← whole; standAt e.pos; holding [v] (truthy v)) := by intro _; rfl) : PTD X n e (wTest w) :=
  ptd_of (pt_val h.pe he) fun σ H F ρ st Q E R tk hw => by
    refine tE.use R tk hw fun v w1 st1 H1 F1 ρ1 p1 R1 r1 h1 => ?_
    obtain ⟨b, rfl, q⟩ := bl_of h1 r1
    exact ⟨b, rfl, st1, F1, ρ1, p1, R1, q⟩
theorem ptd_cmp {op : CmpOp} {r : R2} {o : DOp} {wa wb : DE} (ho : OpR X (compareOp op) r) (s : OpS X.K r o) (hm : behindInMarks op b = false) (ha : PD X n a wa) (hb : PD X n b wb) : PTD X n (.Compare a [op] [b] pos) (wTest (wOp o wa wb)) :=
  ptd_of (pt_cmpR ho ha.pe hb.pe hm) fun σ H F ρ st Q E R tk hw => by
    refine tE.use R tk hw fun v w1 st1 H1 F1 ρ1 p1 R1 r1 h1 => ?_
    refine tE.use R1 tk h1 fun u w2 st2 H2 F2 ρ2 p2 R2 r2 h2 => ?_
    cases w1 <;> first | exact h2.elim | skip
    cases w2 <;> first | exact h2.elim | skip
    rename_i x y
    refine s F2 H2 x y v u _ _ R2.ok.sub (Rep.sub p2.le x v r1) r2 h2 fun z H' d F' g rz q => ?_
    obtain ⟨p3, R3⟩ := R2.grow g
    obtain ⟨b, rfl, q⟩ := bl_of (ρ := ρ2) q rz
    exact ⟨b, rfl, st2, F', ρ2, (p1.trans p2 R1.ok.dom).trans p3 R2.ok.dom, R3, q⟩
def wAndT (a b : DT) : DT := fun st Q E => a st (fun c st1 => brD c (b st1 Q E) (Q false st1)) E
def wOrT (a b : DT) : DT := fun st Q E => a st (fun c st1 => brD c (Q true st1) (b st1 Q E)) E
def wNotT (a : DT) : DT := fun st Q E => a st (fun c st1 => Q (!c) st1) E
theorem ptd_not {w : DT} (h : PTD X n a w) : PTD X n (.UnaryOp .Not a pos) (wNotT w) :=
  ptd_of (pt_not h.pt) fun σ H F ρ st Q E R tk hw => tT.use R tk hw fun b st1 H1 F1 ρ1 p1 R1 h1 => ⟨st1, F1, ρ1, p1, R1, h1⟩
theorem pwd_and1 {w : DT} (h : PTD X n a w) : PWD X n (.BoolOp .And [a] pos) w :=
  pwd_of (pw_and1 h.pt) fun σ H F ρ st Q E R tk hw => tT.use R tk hw fun b st1 H1 F1 ρ1 p1 R1 h1 => ⟨st1, F1, ρ1, p1, R1, h1⟩
theorem pwd_or1 {w : DT} (h : PTD X n a w) : PWD X n (.BoolOp .Or [a] pos) w :=
  pwd_of (pw_or1 h.pt) fun σ H F ρ st Q E R tk hw => tT.use R tk hw fun b st1 H1 F1 ρ1 p1 R1 h1 => ⟨st1, F1, ρ1, p1, R1, h1⟩
theorem pwd_and {wa wb : DT} (ha : PTD X n a wa) (hb : PWD X n (.BoolOp .And (b :: rest) pos) wb) : PWD X n (.BoolOp .And (a :: b :: rest) pos) (wAndT wa wb) :=
  pwd_of (pw_and ha.pt hb.pw) fun σ H F ρ st Q E R tk hw => by
    refine tT.use R tk hw fun c st1 H1 F1 ρ1 p1 R1 h1 => ?_
    cases c with
    | true => have h1 := brD_t h1; exact tT.use R1 tk h1 fun b st2 H2 F2 ρ2 p2 R2 h2 => ⟨st2, F2, ρ2, p1.trans p2 R1.ok.dom, R2, h2⟩
    | false => have h1 := brD_f h1; exact ⟨st1, F1, ρ1, p1, R1, h1⟩
theorem pwd_or {wa wb : DT} (ha : PTD X n a wa) (hb : PWD X n (.BoolOp .Or (b :: rest) pos) wb) : PWD X n (.BoolOp .Or (a :: b :: rest) pos) (wOrT wa wb) :=
  pwd_of (pw_or ha.pt hb.pw) fun σ H F ρ st Q E R tk hw => by
    refine tT.use R tk hw fun c st1 H1 F1 ρ1 p1 R1 h1 => ?_
    cases c with
    | false => have h1 := brD_f h1; exact tT.use R1 tk h1 fun b st2 H2 F2 ρ2 p2 R2 h2 => ⟨st2, F2, ρ2, p1.trans p2 R1.ok.dom, R2, h2⟩
    | true => have h1 := brD_t h1; exact ⟨st1, F1, ρ1, p1, R1, h1⟩
def wAndV (a b : DE) : DE := fun st Q E => a st (fun v st1 => match v with
  | .d (.bl c) => brD c (b st1 Q E) (Q (.d (.bl false)) st1)
  | _ => False) E
def wOrV (a b : DE) : DE := fun st Q E => a st (fun v st1 => match v with
  | .d (.bl c) => brD c (Q (.d (.bl true)) st1) (b st1 Q E)
  | _ => False) E
def wNotV (a : DE) : DE := fun st Q E => a st (fun v st1 => match v with
  | .d (.bl c) => Q (.d (.bl (!c))) st1
  | _ => False) E
theorem pd_one {op} {w : DE} (h : PD X n a w) : PD X n (.BoolOp op [a] pos) w :=
  pd_of (pe_one h.pe) fun σ H F ρ st Q E R tk hw => tE.use R tk hw fun v w1 st1 H1 F1 ρ1 p1 R1 r1 h1 => ⟨w1, st1, F1, ρ1, p1, R1, r1, h1⟩
theorem blE_of {w1 : W} {Q : Bool → Prop} {K : PySem.W.Frag} {F : Hp} {ρ : List Addr} {v : V} (h : match w1 with
  | .d (.bl b) => Q b
  | _ => False) (r : RepW K F ρ w1 v) : ∃ b, v = .bl b ∧ Q b := by
  split at h
  · rename_i b
    exact ⟨b, r, h⟩
  · exact h.elim
theorem pd_and {wa wb : DE} (ha : PD X n a wa) (hb : PD X n (.BoolOp .And (b :: rest) pos) wb) : PD X n (.BoolOp .And (a :: b :: rest) pos) (wAndV wa wb) :=
  pd_of (pe_and ha.pe hb.pe) fun σ H F ρ st Q E R tk hw => by
    refine tE.use R tk hw fun v w1 st1 H1 F1 ρ1 p1 R1 r1 h1 => ?_
    obtain ⟨c, rfl, h1⟩ := blE_of (Q := fun c => brD c (wb st1 Q E) (Q (.d (.bl false)) st1)) h1 r1
    refine ⟨c, rfl, ?_⟩
    cases c with
    | true => have h1 := brD_t h1; exact tE.use R1 tk h1 fun v w2 st2 H2 F2 ρ2 p2 R2 r2 h2 => ⟨w2, st2, F2, ρ2, p1.trans p2 R1.ok.dom, R2, r2, h2⟩
    | false => have h1 := brD_f h1; exact ⟨.d (.bl false), st1, F1, ρ1, p1, R1, rfl, h1⟩
theorem pd_or {wa wb : DE} (ha : PD X n a wa) (hb : PD X n (.BoolOp .Or (b :: rest) pos) wb) : PD X n (.BoolOp .Or (a :: b :: rest) pos) (wOrV wa wb) :=
  pd_of (pe_or ha.pe hb.pe) fun σ H F ρ st Q E R tk hw => by
    refine tE.use R tk hw fun v w1 st1 H1 F1 ρ1 p1 R1 r1 h1 => ?_
    obtain ⟨c, rfl, h1⟩ := blE_of (Q := fun c => brD c (Q (.d (.bl true)) st1) (wb st1 Q E)) h1 r1
    refine ⟨c, rfl, ?_⟩
    cases c with
    | false => have h1 := brD_f h1; exact tE.use R1 tk h1 fun v w2 st2 H2 F2 ρ2 p2 R2 r2 h2 => ⟨w2, st2, F2, ρ2, p1.trans p2 R1.ok.dom, R2, r2, h2⟩
    | true => have h1 := brD_t h1; exact ⟨.d (.bl true), st1, F1, ρ1, p1, R1, rfl, h1⟩
theorem pd_not {wa : DE} (ha : PD X n a wa) : PD X n (.UnaryOp .Not a pos) (wNotV wa) :=
  pd_of (pe_not ha.pe) fun σ H F ρ st Q E R tk hw => by
    refine tE.use R tk hw fun v w1 st1 H1 F1 ρ1 p1 R1 r1 h1 => ?_
    obtain ⟨c, rfl, h1⟩ := blE_of (Q := fun c => Q (.d (.bl (!c))) st1) h1 r1
    exact ⟨c, rfl, .d (.bl (!c)), st1, F1, ρ1, p1, R1, rfl, h1⟩
def wIf (t : DT) (a b : DE) : DE := fun st Q E => t st (fun c st1 => brD c (a st1 Q E) (b st1 Q E)) E
theorem pd_if {wt : DT} {wa wb : DE} (ht : PTD X n c wt) (ha : PD X n a wa) (hb : PD X n b wb) : PD X n (.IfExp c a b pos) (wIf wt wa wb) :=
  pd_of (pe_ifExp ht.pt ha.pe hb.pe) fun σ H F ρ st Q E R tk hw => by
    refine tT.use R tk hw fun c st1 H1 F1 ρ1 p1 R1 h1 => ?_
    cases c with
    | true => have h1 := brD_t h1; exact tE.use R1 tk h1 fun v w2 st2 H2 F2 ρ2 p2 R2 r2 h2 => ⟨w2, st2, F2, ρ2, p1.trans p2 R1.ok.dom, R2, r2, h2⟩
    | false => have h1 := brD_f h1; exact tE.use R1 tk h1 fun v w2 st2 H2 F2 ρ2 p2 R2 r2 h2 => ⟨w2, st2, F2, ρ2, p1.trans p2 R1.ok.dom, R2, r2, h2⟩
def wChain (o o' : DOp) (wa wb wc : DE) : DE := fun st Q E => wa st (fun a st1 => wb st1 (fun b st2 => match a, b with
  | .d x, .d y => o x y fun z => match z with
    | .bl k => brD k (wc st2 (fun c st3 => match c with
        | .d w => o' y w fun z' => Q (.d z') st3
        | _ => False) E) (Q (.d (.bl false)) st2)
    | _ => False
  | _, _ => False) E) E
theorem chain_sim {r r' : R2} {o o' : DOp} {wa wb wc : DE} (s : OpS X.K r o) (s' : OpS X.K r' o') {σ : L2.St} {H F : Hp} {ρ : List Addr} {st : Dst} {Q : DQ} {E : DX} {kk : VK} (R : Rl X.K n F ρ st σ H) (tk : TkD X n E) (h : wChain o o' wa wb wc st Q E) (hk : ∀ v H', qE X n σ F ρ H Q v H' → kk v H') :
    tChain r r' (tE X n wa) (tE X n wb) (tE X n wc) σ H kk := by
  refine tE.use R tk h fun v w1 st1 H1 F1 ρ1 p1 R1 r1 h1 => ?_
  refine tE.use R1 tk h1 fun u w2 st2 H2 F2 ρ2 p2 R2 r2 h2 => ?_
  cases w1 <;> first | exact h2.elim | skip
  cases w2 <;> first | exact h2.elim | skip
  rename_i x y
  refine s F2 H2 x y v u _ _ R2.ok.sub (Rep.sub p2.le x v r1) r2 h2 fun z H' d F' g rz q => ?_
  obtain ⟨p3, R3⟩ := R2.grow g
  have p13 := (p1.trans p2 R1.ok.dom).trans p3 R2.ok.dom
  split at q
  · rename_i k
    refine ⟨k, rz, ?_⟩
    cases k with
    | false => have q := brD_f q; exact hk _ _ ⟨.d (.bl false), st2, F', ρ2, p13, R3, rfl, q⟩
    | true =>
      have q := brD_t q
      refine tE.use R3 tk q fun t w4 st4 H4 F4 ρ4 p4 R4 r4 h4 => ?_
      split at h4
      · rename_i w
        refine s' F4 H4 y w u t _ _ R4.ok.sub (Rep.sub p4.le y u (Rep.sub p3.le y u r2)) r4 h4 fun z' H5 d5 F5 g5 rz5 q5 => ?_
        obtain ⟨p5, R5⟩ := R4.grow g5
        exact hk _ _ ⟨.d d5, st4, F5, ρ4, (p13.trans p4 R3.ok.dom).trans p5 R4.ok.dom, R5, rz5, q5⟩
      · exact h4.elim
  · exact q.elim
theorem pd_chain {op op' : CmpOp} {r r' : R2} {o o' : DOp} {wa wb wc : DE} (ho : OpR X (compareOp op) r) (ho' : OpR X (compareOp op') r') (s : OpS X.K r o) (s' : OpS X.K r' o') (ha : PD X n a wa) (hb : PD X n b wb) (hc : PD X n c wc)
    (hm : lastMarks [op, op'] [b, c] = false := by with_unfolding_all rfl) : PD X n (.Compare a [op, op'] [b, c] pos) (wChain o o' wa wb wc) :=
  pd_of (pe_chain ho ho' ha.pe hb.pe hc.pe hm) fun _ _ _ _ _ _ _ R tk hw => chain_sim s s' R tk hw fun _ _ q => q
theorem ptd_chain {op op' : CmpOp} {r r' : R2} {o o' : DOp} {wa wb wc : DE} (ho : OpR X (compareOp op) r) (ho' : OpR X (compareOp op') r') (s : OpS X.K r o) (s' : OpS X.K r' o') (ha : PD X n a wa) (hb : PD X n b wb) (hc : PD X n c wc)
    (hm : lastMarks [op, op'] [b, c] = false := by with_unfolding_all rfl) : PTD X n (.Compare a [op, op'] [b, c] pos) (wTest (wChain o o' wa wb wc)) :=
  ptd_of (pt_chain ho ho' ha.pe hb.pe hc.pe hm) fun σ H F ρ st Q E R tk hw => chain_sim s s' R tk hw fun v H' ⟨w', st', F', ρ', p, R', rw, q⟩ => by
    obtain ⟨k, rfl, q⟩ := bl_of q rw
    exact ⟨k, rfl, st', F', ρ', p, R', q⟩
end
end Dl
namespace Dl
open PySem PySem.Spec PyProof.Rows L2
section
variable {X : Cx} {n : En} {e a b c : Expr} {cs : Stmt} {rest body : List Stmt} {pos : Pos} {t u : DS} {we : DE}

theorem SPD.after {pins : List (Addr × Obj)} {F F1 : Hp} {ρ ρ1 : List Addr} {H H1 : Hp} {D : DEnds} {f : Flow} {s : Shared} (p : Post F ρ H F1 ρ1 H1) (d : ∀ c ∈ ρ1, H1 c ≠ none) (h : SPD X n pins F1 ρ1 H1 D f s) : SPD X n pins F ρ H D f s := by
  cases f with
  | next => obtain ⟨σ', H', F', ρ', st', I, q, R, z⟩ := h; exact ⟨σ', H', F', ρ', st', I, p.trans q d, R, z⟩
  | brk => obtain ⟨σ', H', F', ρ', st', I, q, R, z⟩ := h; exact ⟨σ', H', F', ρ', st', I, p.trans q d, R, z⟩
  | cont => obtain ⟨σ', H', F', ρ', st', I, q, R, z⟩ := h; exact ⟨σ', H', F', ρ', st', I, p.trans q d, R, z⟩
  | ret u => obtain ⟨v, w', σ', H', F', ρ', μ, I, r, q, p0, ok, rw, z⟩ := h; exact ⟨v, w', σ', H', F', ρ', μ, I, r, p.trans q d, p0, ok, rw, z⟩

def wNext : DS := fun D st => D.nx st
def wSeq (t u : DS) : DS := fun D st => t { D with nx := u D } st
theorem pssd_nil : PSSD X n [] wNext := ⟨fun _ _ σ H F ρ st D I R tk hw => wpAny_execs_nil ⟨σ, H, F, ρ, st, I, Post.refl _ _ _, R, hw⟩⟩
theorem pssd_cons (h1 : PSD X n cs t) (h2 : PSSD X n rest u) : PSSD X n (cs :: rest) (wSeq t u) := by
  refine ⟨fun pins s σ H F ρ st D I R tk hw => ?_⟩
  refine wpAny_execs_cons (thn (h1.run pins s σ H F ρ st { D with nx := u D } I R tk hw) fun f s1 q => ?_)
  cases f with
  | next =>
    obtain ⟨σ', H', F', ρ', st', I', p, R', z⟩ := q
    exact thn (h2.run pins s1 σ' H' F' ρ' st' D I' R' tk z) fun f s2 q2 => q2.after p R'.ok.dom
  | ret v => exact q
  | brk => exact q
  | cont => exact q
theorem pssd_one (h1 : PSD X n cs t) : PSSD X n [cs] t := by
  refine ⟨fun pins s σ H F ρ st D I R tk hw => ?_⟩
  refine wpAny_execs_cons (thn (h1.run pins s σ H F ρ st D I R tk hw) fun f s1 q => ?_)
  cases f with
  | next => exact wpAny_execs_nil q
  | ret v => exact q
  | brk => exact q
  | cont => exact q
theorem psd_pass : PSD X n (.Pass pos) wNext := psd_of ps_pass fun σ H F ρ st D R tk hw => ⟨F, ρ, st, Post.refl _ _ _, R, hw⟩
def wBreak : DS := fun D st => D.bk st
def wCont : DS := fun D st => D.ct st
theorem psd_break : PSD X n (.Break pos) wBreak := psd_of ps_break fun σ H F ρ st D R tk hw => ⟨F, ρ, st, Post.refl _ _ _, R, hw⟩
theorem psd_continue : PSD X n (.Continue pos) wCont := psd_of ps_continue fun σ H F ρ st D R tk hw => ⟨F, ρ, st, Post.refl _ _ _, R, hw⟩
def wNever : DS := fun _ _ => False
theorem psd_never : PSD X n cs wNever := ⟨fun _ _ _ _ _ _ _ _ _ _ _ h => h.elim⟩
theorem pssd_never : PSSD X n rest wNever := ⟨fun _ _ _ _ _ _ _ _ _ _ _ h => h.elim⟩
def wDrop (w : DE) : DS := fun D st => w st (fun _ st1 => D.nx st1) D.ex
theorem psd_expr (h : PD X n e we) (hs : swapsWith e none pos.line X.env = pure false := by rfl) : PSD X n (.Expr e pos) (wDrop we) :=
  psd_of (ps_expr h.pe hs) fun σ H F ρ st D R tk hw => tE.use R tk hw fun v w1 st1 H1 F1 ρ1 p1 R1 r1 h1 => ⟨F1, ρ1, st1, p1, R1, h1⟩
def wRet (w : DE) : DS := fun D st => w st (fun v st1 => D.rt v st1.μ) D.ex
theorem psd_ret (h : PD X n e we) : PSD X n (.Return (some e) pos) (wRet we) :=
  psd_of (ps_ret h.pe) fun σ H F ρ st D R tk hw => tE.use R tk hw fun v w1 st1 H1 F1 ρ1 p1 R1 r1 h1 => ⟨w1, F1, ρ1, st1.μ, p1, R1.po, R1.ok, r1, h1⟩
def wRetN : DS := fun D st => D.rt (.d .non) st.μ
theorem psd_retN : PSD X n (.Return none pos) wRetN := psd_of ps_retN fun σ H F ρ st D R tk hw => ⟨.d .non, F, ρ, st.μ, Post.refl _ _ _, R.po, R.ok, rfl, hw⟩
theorem tS.go {w : DS} {σ : L2.St} {H F F0 : Hp} {ρ ρ0 : List Addr} {H0 : Hp} {st : Dst} {D : DEnds} (R : Rl X.K n F ρ st σ H) (tk : TkD X n D.ex) (p : Post F0 ρ0 H0 F ρ H) (h : w D st) : tS X n w (qD X n F0 ρ0 H0 D) σ H :=
  tS.use R tk h (fun σ' H' F' ρ' st' q R' z => ⟨F', ρ', st', p.trans q R.ok.dom, R', z⟩) (fun v w' H' F' ρ' μ q p0 ok rw z => ⟨w', F', ρ', μ, p.trans q R.ok.dom, p0, ok, rw, z⟩)
    (fun σ' H' F' ρ' st' q R' z => ⟨F', ρ', st', p.trans q R.ok.dom, R', z⟩) (fun σ' H' F' ρ' st' q R' z => ⟨F', ρ', st', p.trans q R.ok.dom, R', z⟩)
def wIfS (c : DT) (t u : DS) : DS := fun D st => c st (fun b st1 => brD b (t D st1) (u D st1)) D.ex
theorem psd_if {wc : DT} {p q : List Stmt} (hc : PTD X n c wc) (ha : PSSD X n p t) (hb : PSSD X n q u) : PSD X n (.If c p q pos) (wIfS wc t u) :=
  psd_of (ps_if hc.pt ha.pss hb.pss) fun σ H F ρ st D R tk hw => by
    refine tT.use R tk hw fun b st1 H1 F1 ρ1 p1 R1 h1 => ?_
    cases b with
    | true => have h1 := brD_t h1; exact tS.go R1 tk p1 h1
    | false => have h1 := brD_f h1; exact tS.go R1 tk p1 h1

abbrev DG := W → Dst → (Dst → Prop) → DX → Prop
abbrev DGs := List D → Dst → (Dst → Prop) → DX → Prop
structure PGD (X : Cx) (n : En) (target : Expr) (g : DG) : Prop where
  run : ∀ (pins : List (Addr × Obj)) (s : Shared) (σ : L2.St) (H F : Hp) (ρ : List Addr) (st : Dst) (w : W) (v : V) (u : Value) (Q : Dst → Prop) (E : DX), Inv X pins σ H s → Rl X.K n F ρ st σ H → TkD X n E → RelV v u → RepW X.K F ρ w v → g w st Q E →
    wpAny (model X.prog X.w) X.A (assign target X.env u) (fun _ s' => ∃ σ' H' F' ρ' st', Inv X pins σ' H' s' ∧ Post F ρ H F' ρ' H' ∧ Rl X.K n F' ρ' st' σ' H' ∧ Q st') X.xe s
def tGD (X : Cx) (n : En) (g : DG) : TG := fun v σ H Q => ∃ F ρ st w DQ E, Rl X.K n F ρ st σ H ∧ TkD X n E ∧ RepW X.K F ρ w v ∧ g w st DQ E ∧ ∀ σ' H' F' ρ' st', Post F ρ H F' ρ' H' → Rl X.K n F' ρ' st' σ' H' → DQ st' → Q σ' H'
theorem PGD.pg {tg : Expr} {g : DG} (h : PGD X n tg g) : PG X tg (tGD X n g) := by
  refine ⟨fun pins s σ H v u Q I r ⟨F, ρ, st, w, DQ, E, R, tk, rw, hw, k⟩ => ?_⟩
  exact thn (h.run pins s σ H F ρ st w v u DQ E I R tk r rw hw) fun _ s1 ⟨σ', H', F', ρ', st', I', p, R', q⟩ => ⟨σ', H', I', k _ _ _ _ _ p R' q⟩
theorem pgd_of {tg : Expr} {t : TG} {g : DG} (h : PG X tg t) (sim : ∀ (σ : L2.St) (H F : Hp) (ρ : List Addr) (st : Dst) (w : W) (v : V) (Q : Dst → Prop) (E : DX), Rl X.K n F ρ st σ H → TkD X n E → RepW X.K F ρ w v → g w st Q E → t v σ H (qN X n F ρ H Q)) : PGD X n tg g := by
  refine ⟨fun pins s σ H F ρ st w v u Q E I R tk r rw hw => ?_⟩
  exact thn (h.run pins s σ H v u _ I r (sim σ H F ρ st w v Q E R tk rw hw)) fun _ s1 ⟨σ', H', I', F', ρ', st', p, R', q⟩ => ⟨σ', H', F', ρ', st', I', p, R', q⟩
theorem Rl.set {K : PySem.W.Frag} {F : Hp} {ρ : List Addr} {st : Dst} {σ : L2.St} {H : Hp} (R : Rl K n F ρ st σ H) (i : Nat) {w : W} {v : V} (r : RepW K F ρ w v) : Rl K n F ρ { st with δ := st.δ.set i (some w) } (σ.set i (some v)) H := by
  refine ⟨R.ok, R.po, by simp [R.len], fun j w' e => ?_⟩
  have e : (st.δ.set i (some w))[j]? = some (some w') := e
  by_cases hj : i = j
  · subst hj
    by_cases hi : i < st.δ.length
    · rw [List.getElem?_set_self hi] at e
      cases e
      exact ⟨v, by rw [List.getElem?_set_self (by rw [← R.len]; exact hi)], r⟩
    · rw [List.getElem?_eq_none (by simpa using hi)] at e; cases e
  · rw [List.getElem?_set_ne hj] at e
    obtain ⟨v', e', r'⟩ := R.slots j w' e
    exact ⟨v', by rw [List.getElem?_set_ne hj]; exact e', r'⟩
def gN (i : Nat) : DG := fun w st Q _ => Q { st with δ := st.δ.set i (some w) }
theorem pgd_name {i : Nat} {x : Str} (hN : X.N.Nodup) (hi : X.N[i]? = some x := by rfl) (hx : Loc X.env.scope x := by first | exact Or.inl rfl | exact Or.inr rfl) (hf : X.fn x = true ∨ X.env.scope.names.lookup x = some .local := by first | exact .inl rfl | exact .inr rfl | assumption) : PGD X n (.Name x pos) (gN i) :=
  pgd_of (pg_name hN hi hx hf) fun σ H F ρ st w v Q E R tk r hw => ⟨F, ρ, _, Post.refl _ _ _, R.set i r, hw⟩
def gsNil : DGs := fun ds st Q _ => match ds with
  | [] => Q st
  | _ => False
def gsCons (g : DG) (gs : DGs) : DGs := fun ds st Q E => match ds with
  | d :: r => g (.d d) st (fun st1 => gs r st1 Q E) E
  | [] => False
structure PGsD (X : Cx) (n : En) (ts : List Expr) (g : DGs) : Prop where
  run : ∀ (pins : List (Addr × Obj)) (s : Shared) (σ : L2.St) (H F : Hp) (ρ : List Addr) (st : Dst) (ds : List D) (vs : List V) (us : List Value) (Q : Dst → Prop) (E : DX), Inv X pins σ H s → Rl X.K n F ρ st σ H → TkD X n E → Vals vs us → RepL X.K F ds vs → g ds st Q E →
    wpAny (model X.prog X.w) X.A (assignInOrder ((assignEach ts X.env).map (·.2)) us) (fun _ s' => ∃ σ' H' F' ρ' st', Inv X pins σ' H' s' ∧ Post F ρ H F' ρ' H' ∧ Rl X.K n F' ρ' st' σ' H' ∧ Q st') X.xe s
theorem pgsd_nil : PGsD X n [] gsNil := by
  refine ⟨fun pins s σ H F ρ st ds vs us Q E I R tk r rw hw => ?_⟩
  cases ds with
  | cons _ _ => exact hw.elim
  | nil =>
    unfold RepL at rw; subst rw
    cases r
    exact assignInOrder_nil ⟨σ, H, F, ρ, st, I, Post.refl _ _ _, R, hw⟩
theorem pgsd_cons {es : List Expr} {g : DG} {gs : DGs} (h1 : PGD X n e g) (h2 : PGsD X n es gs)
    (hs : (assignEach (e :: es) X.env).map (·.2) = assign e X.env :: (assignEach es X.env).map (·.2) := by rfl) : PGsD X n (e :: es) (gsCons g gs) := by
  refine ⟨fun pins s σ H F ρ st ds vs us Q E I R tk r rw hw => ?_⟩
  cases ds with
  | nil => exact hw.elim
  | cons d ds =>
    unfold RepL at rw
    obtain ⟨v, vr, rfl, r1, r2⟩ := rw
    cases r with
    | cons rv rr =>
      rw [hs]
      refine assignInOrder_cons (thn (h1.run pins s σ H F ρ st (.d d) v _ _ E I R tk rv r1 hw) fun _ s1 ⟨σ1, H1, F1, ρ1, st1, I1, p1, R1, q1⟩ => ?_)
      exact thn (h2.run pins s1 σ1 H1 F1 ρ1 st1 ds vr _ Q E I1 R1 tk rr (RepL.sub p1.le _ _ r2) q1) fun _ s2 ⟨σ2, H2, F2, ρ2, st2, I2, p2, R2, q2⟩ => ⟨σ2, H2, F2, ρ2, st2, I2, p1.trans p2 R1.ok.dom, R2, q2⟩
/-- (a, b, ..) = a tuple of that length -/
def gT (m : Nat) (gs : DGs) : DG := fun w st Q E => match w with
  | .d (.tup xs) => xs.length = m ∧ gs xs st Q E
  | _ => False
theorem pgd_tup {es : List Expr} {k m : Nat} {gs : DGs} (hc : X.calm = true) (h : PGsD X n es gs)
    (hn : (assignEach es X.env).length = m := by rfl) (hst : (assignEach es X.env).findIdx? (·.1) = none := by rfl) : PGD X n (.Tuple es k pos) (gT m gs) := by
  refine ⟨fun pins s σ H F ρ st w v u Q E I R tk r rw hw => ?_⟩
  unfold gT at hw
  split at hw
  · rename_i xs
    obtain ⟨hl, hw⟩ := hw
    have rw : Rep X.K F (.tup xs) v := rw
    unfold Rep at rw
    obtain ⟨p, vs, rfl, e1, q⟩ := rw
    cases r
    obtain ⟨its, rv, ht, hz⟩ := I.tuple (e1.sq R.ok.sub)
    refine assign_Tuple_tuple (I.ok.hd hc) ht (by simp [hn, ← hl, ← rv.length, q.len]) hst fun h' hx => ?_
    have I1 : Inv X pins σ H { s with heap := h' } := I.kept (t' := s.toks) fun b o e => hx b o (Nat.ne_of_lt (Heap.lt_size e)) e
    exact h.run pins _ σ H F ρ st xs vs _ Q E I1 R tk (by simpa using rv) q hw
  · exact hw.elim
def wAsg (w : DE) (g : DG) : DS := fun D st => w st (fun v st1 => g v st1 D.nx D.ex) D.ex
theorem psd_set {i : Nat} {x : Str} {pos' : Pos} (hN : X.N.Nodup) (h : PD X n e we) (hi : X.N[i]? = some x := by rfl) (hx : Loc X.env.scope x := by first | exact Or.inl rfl | exact Or.inr rfl) (hs : swapsWith e (some (.Name x pos')) pos.line X.env = pure false := by rfl)
    (hf : X.fn x = true ∨ X.env.scope.names.lookup x = some .local := by first | exact .inl rfl | exact .inr rfl | assumption) : PSD X n (.Assign [.Name x pos'] e pos) (wAsg we (gN i)) :=
  psd_of (ps_set hN hi hx h.pe hs hf) fun σ H F ρ st D R tk hw => tE.use R tk hw fun v w1 st1 H1 F1 ρ1 p1 R1 r1 h1 => ⟨F1, ρ1, _, p1, R1.set i r1, h1⟩
theorem psd_asg {tg : Expr} {g : DG} (he : PD X n e we) (hg : PGD X n tg g) (hs : swapsWithSole [tg] e pos.line X.env = pure false := by rfl) (hw : swappedStores [tg] e X.env = pure none := by rfl)
    (h1 : (assignEach [tg] X.env).map (·.2) = [assign tg X.env] := by rfl) : PSD X n (.Assign [tg] e pos) (wAsg we g) :=
  psd_of (ps_asg he.pe hg.pg hs hw h1) fun σ H F ρ st D R tk hw => tE.use R tk hw fun v w1 st1 H1 F1 ρ1 p1 R1 r1 h1 =>
    ⟨F1, ρ1, st1, w1, _, _, R1, tk, r1, h1, fun σ' H' F' ρ' st' q R' z => ⟨F', ρ', st', p1.trans q R1.ok.dom, R', z⟩⟩
end
end Dl
namespace Dl
open PySem PySem.Spec PyProof.Rows L2
section
variable {X : Cx} {n : En} {e a b c tg : Expr} {cs : Stmt} {rest body : List Stmt} {pos : Pos} {t u : DS} {we : DE}

def wPar (i j : Nat) (wa : DA) : DS := fun D st => wa st (fun ws st1 => match ws with
  | [v, w] => D.nx { st1 with δ := (st1.δ.set i (some v)).set j (some w) }
  | _ => False) D.ex
theorem psd_par {i j : Nat} {x y : Str} {wa : DA} {px py pt : Pos} {kt k2 pt2} (hc : X.calm = true) (hN : X.N.Nodup) (ha : PAD X n [a, b] wa) (hi : X.N[i]? = some x := by rfl) (hj : X.N[j]? = some y := by rfl) (hij : i ≠ j := by decide)
    (hx : X.env.scope.names.lookup x = some .local := by rfl) (hy : X.env.scope.names.lookup y = some .local := by rfl)
    (hw : swappedStores [.Tuple [.Name x px, .Name y py] kt pt] (.Tuple [a, b] k2 pt2) X.env = pure (some [x, y]) := by rfl)
    (hs : swapsWithSole [.Tuple [.Name x px, .Name y py] kt pt] (.Tuple [a, b] k2 pt2) pos.line X.env = pure false := by rfl) :
    PSD X n (.Assign [.Tuple [.Name x px, .Name y py] kt pt] (.Tuple [a, b] k2 pt2) pos) (wPar i j wa) :=
  psd_of (ps_par hc hN hi hj hij hx hy ha.pa hw hs) fun σ H F ρ st D R tk hw => by
    refine tA.use R tk hw fun vs ws st1 H1 F1 ρ1 p1 R1 r1 h1 => ?_
    split at h1
    · rename_i w1 w2
      obtain ⟨v1, r, rfl, q1, v2, r', rfl, q2, rfl⟩ := r1
      exact ⟨v1, v2, rfl, F1, ρ1, _, p1, (R1.set i q1).set j q2, h1⟩
    · exact h1.elim

/-- J yields the items xs, wherever F0 stands -/
structure ItD (K : PySem.W.Frag) (F0 : Hp) (J : It) (xs : List D) : Prop where
  go : ∀ (i : Nat) (F H : Hp), SubH F0 F → SubH F H → i < xs.length → J.go i H
  yld : ∀ (i : Nat) (F H : Hp) (x : V) (H' : Hp), SubH F0 F → SubH F H → i < xs.length → J.yld i H x H' → ∃ d F', xs[i]? = some d ∧ Grow F H F' H' ∧ Rep K F' d x
  stop : ∀ (i : Nat) (F H : Hp), SubH F0 F → SubH F H → xs.length ≤ i → J.stop i H
abbrev DI := Dst → (List D → Dst → Prop) → DX → Prop
structure PID (X : Cx) (n : En) (tg iter : Expr) (w : DI) : Prop where
  run : ∀ (pins : List (Addr × Obj)) (s : Shared) (σ : L2.St) (H F : Hp) (ρ : List Addr) (st : Dst) (Q : List D → Dst → Prop) (E : DX), Inv X pins σ H s → Rl X.K n F ρ st σ H → TkD X n E → w st Q E →
    wpAny (model X.prog X.w) X.A (eval iter X.env) (fun v s1 => wpAny (model X.prog X.w) X.A (pyIter v) (PIE X pins σ tg fun J H' => ∃ xs st' F' ρ', Post F ρ H F' ρ' H' ∧ Rl X.K n F' ρ' st' σ H' ∧ ItD X.K F' J xs ∧ Q xs st') X.xe s1) X.xe s
def tID (X : Cx) (n : En) (w : DI) : TI := fun σ H R0 => ∃ F ρ st DQ E, Rl X.K n F ρ st σ H ∧ TkD X n E ∧ w st DQ E ∧ ∀ J xs st' H' F' ρ', Post F ρ H F' ρ' H' → Rl X.K n F' ρ' st' σ H' → ItD X.K F' J xs → DQ xs st' → R0 J H'
theorem PID.pi {iter : Expr} {w : DI} (h : PID X n tg iter w) : PI X tg iter (tID X n w) := by
  refine ⟨fun pins s σ H R0 I ⟨F, ρ, st, DQ, E, R, tk, hw, k⟩ => ?_⟩
  refine thn (h.run pins s σ H F ρ st DQ E I R tk hw) fun v s1 q => thn q fun itv s2 ⟨it, fp, tn, J, H', e, I', T, st2, f2, xs, st', F', ρ', p, R', it', q⟩ => ?_
  exact ⟨it, fp, tn, J, H', e, I', T, st2, f2, k J xs st' H' F' ρ' p R' it' q⟩
theorem pid_of {iter : Expr} {wi : TI} {w : DI} (h : PI X tg iter wi) (sim : ∀ (σ : L2.St) (H F : Hp) (ρ : List Addr) (st : Dst) (Q : List D → Dst → Prop) (E : DX), Rl X.K n F ρ st σ H → TkD X n E → w st Q E →
    wi σ H fun J H' => ∃ xs st' F' ρ', Post F ρ H F' ρ' H' ∧ Rl X.K n F' ρ' st' σ H' ∧ ItD X.K F' J xs ∧ Q xs st') : PID X n tg iter w :=
  ⟨fun pins s σ H F ρ st Q E I R tk hw => h.run pins s σ H _ I (sim σ H F ρ st Q E R tk hw)⟩
/-- over a list or a text or a tuple, by its expression -/
def items : D → Option (List D)
  | .lst xs => some xs
  | .tup xs => some xs
  | .str x => some (x.map fun c => .str [c])
  | _ => none
def wItL (w : DE) : DI := fun st Q E => w st (fun v st1 => match v with
  | .d (.lst xs) => Q xs st1
  | _ => False) E
def wItT (w : DE) : DI := fun st Q E => w st (fun v st1 => match v with
  | .d (.tup xs) => Q xs st1
  | _ => False) E
def wItS (w : DE) : DI := fun st Q E => w st (fun v st1 => match v with
  | .d (.str x) => Q (x.map fun c => .str [c]) st1
  | _ => False) E
theorem itd_list {K : PySem.W.Frag} {F0 : Hp} {p : Addr} {vs : List V} {xs : List D} (h : F0 p = some (.lst vs)) (r : RepL K F0 xs vs) : ItD K F0 (Itl K p) xs where
  go := fun i F H s1 s2 hi => by
    obtain ⟨v, e, _⟩ := r.get (i := i) (d := xs[i]) (by simp [hi])
    exact ⟨vs, v, .of (s2 _ _ (s1 _ _ h)), e⟩
  yld := fun i F H x H' s1 s2 hi y => by
    obtain ⟨rfl, y⟩ := y
    obtain ⟨d, e, q⟩ := r.getV (y vs (.of (s2 _ _ (s1 _ _ h))))
    exact ⟨d, F, e, .refl _ _, Rep.sub s1 _ _ q⟩
  stop := fun i F H s1 s2 hi => ⟨vs, .of (s2 _ _ (s1 _ _ h)), by rw [← r.len]; exact hi⟩
theorem itd_tup {K : PySem.W.Frag} {F0 : Hp} {p : Addr} {vs : List V} {xs : List D} (h : TupAt K F0 p vs) (r : RepL K F0 xs vs) : ItD K F0 (Itt K p) xs where
  go := fun i F H s1 s2 hi => by
    obtain ⟨v, e, _⟩ := r.get (i := i) (d := xs[i]) (by simp [hi])
    exact ⟨vs, v, (h.sub s1).sq s2, e⟩
  yld := fun i F H x H' s1 s2 hi y => by
    obtain ⟨rfl, y⟩ := y
    obtain ⟨d, e, q⟩ := r.getV (y vs ((h.sub s1).sq s2))
    exact ⟨d, F, e, .refl _ _, Rep.sub s1 _ _ q⟩
  stop := fun i F H s1 s2 hi => ⟨vs, (h.sub s1).sq s2, by rw [← r.len]; exact hi⟩
theorem itd_str {K : PySem.W.Frag} {F0 : Hp} {x : List Nat} : ItD K F0 (Its (mkS x)) (x.map fun c => .str [c]) where
  go := fun i F H s1 s2 hi => by
    show i < (mkS x).cps.size
    simpa [mkS] using hi
  yld := fun i F H v H' s1 s2 hi y => by
    obtain ⟨rfl, c, e, rfl⟩ := y
    refine ⟨.str [c], F, ?_, .refl _ _, rfl⟩
    have e : x[i]? = some c := by simpa [mkS] using e
    rw [List.getElem?_map, e]; rfl
  stop := fun i F H s1 s2 hi => by
    show (mkS x).cps.size ≤ i
    simpa [mkS] using hi
theorem pid_list (h : PD X n e we) : PID X n tg e (wItL we) :=
  pid_of (pi_list h.pe) fun σ H F ρ st Q E R tk hw => by
    refine tE.use R tk hw fun v w1 st1 H1 F1 ρ1 p1 R1 r1 h1 => ?_
    split at h1
    · rename_i xs
      have r1 : Rep X.K F1 (.lst xs) v := r1
      unfold Rep at r1
      obtain ⟨p, vs, rfl, e1, q⟩ := r1
      exact ⟨p, rfl, ⟨vs, .of (R1.ok.sub _ _ e1)⟩, xs, st1, F1, ρ1, p1, R1, itd_list e1 q, h1⟩
    · exact h1.elim
theorem pid_tup (h : PD X n e we) : PID X n tg e (wItT we) :=
  pid_of (pi_tup h.pe) fun σ H F ρ st Q E R tk hw => by
    refine tE.use R tk hw fun v w1 st1 H1 F1 ρ1 p1 R1 r1 h1 => ?_
    split at h1
    · rename_i xs
      have r1 : Rep X.K F1 (.tup xs) v := r1
      unfold Rep at r1
      obtain ⟨p, vs, rfl, e1, q⟩ := r1
      exact ⟨p, rfl, ⟨vs, e1.sq R1.ok.sub⟩, xs, st1, F1, ρ1, p1, R1, itd_tup e1 q, h1⟩
    · exact h1.elim
theorem pid_str (h : PD X n e we) : PID X n tg e (wItS we) :=
  pid_of (pi_str h.pe) fun σ H F ρ st Q E R tk hw => by
    refine tE.use R tk hw fun v w1 st1 H1 F1 ρ1 p1 R1 r1 h1 => ?_
    split at h1
    · rename_i x
      obtain rfl := (show v = .str (mkS x) from r1)
      exact ⟨_, rfl, _, st1, F1, ρ1, p1, R1, itd_str, h1⟩
    · exact h1.elim
/-- whatever of the three it is -/
def wIt (w : DE) : DI := fun st Q E => w st (fun v st1 => match v with
  | .d x => match items x with
    | some xs => Q xs st1
    | none => False
  | _ => False) E
theorem pid_any (h : PD X n e we) : PID X n tg e (wIt we) := by
  refine ⟨fun pins s σ H F ρ st Q E I R tk hw => ?_⟩
  refine thn (h.run pins s σ H F ρ st _ E I R tk hw) fun u s1 ⟨v, w1, st1, H1, F1, ρ1, I1, r, p1, R1, r1, h1⟩ => ?_
  dsimp only at h1
  split at h1
  · rename_i x
    split at h1
    · rename_i xs ex
      cases x <;> first | (cases ex; done) | skip
      · cases ex
        rename_i x
        obtain rfl := (show v = .str (mkS x) from r1)
        obtain ⟨t, rfl⟩ := r
        cases ha : (mkS x).cps.all (· < 128)
        · exact wpAny_pyIter_wide ha (pi_one (tk := s1.toks) I1 _ (turn_str _ _ t "str_iterator" (.inr rfl)) ⟨_, Heap.get?_push_size _ rfl, rfl, rfl⟩ ⟨_, st1, F1, ρ1, p1, R1, itd_str, h1⟩)
        · exact wpAny_pyIter_ascii ha (pi_one (tk := s1.toks) I1 _ (turn_str _ _ t "str_ascii_iterator" (.inl rfl)) ⟨_, Heap.get?_push_size _ rfl, rfl, rfl⟩ ⟨_, st1, F1, ρ1, p1, R1, itd_str, h1⟩)
      · cases ex
        have r1 : Rep X.K F1 (.tup xs) v := r1
        unfold Rep at r1
        obtain ⟨p, vs, rfl, e1, q⟩ := r1
        cases r
        obtain ⟨its, rv, pp, hz⟩ := I1.tuple (e1.sq R1.ok.sub)
        refine wpAny_pyIter_tuple (show s1.heap.IsTuple p its.toArray from pp) ?_
        refine ⟨s1.heap.objs.size, [s1.heap.objs.size], _, _, H1, rfl, I1.kept (t' := s1.toks) fun b o e => Heap.get?_push_of_some _ e, turn_tuple p _, ⟨_, Heap.get?_push_size _ rfl, rfl, rfl⟩, fun b hb => ?_, xs, st1, F1, ρ1, p1, R1, itd_tup e1 q, h1⟩
        have e : b = s1.heap.objs.size := by simpa using hb
        subst e
        exact I1.fpOk (Nat.le_refl _) (I1.hok.fresh (Nat.le_refl _))
      · cases ex
        have r1 : Rep X.K F1 (.lst xs) v := r1
        unfold Rep at r1
        obtain ⟨p, vs, rfl, e1, q⟩ := r1
        cases r
        obtain ⟨its, rv, pp, hz⟩ := I1.list (.of (R1.ok.sub _ _ e1))
        refine wpAny_pyIter_list pp.isList ?_
        refine ⟨s1.heap.objs.size, [s1.heap.objs.size], _, _, H1, rfl, I1.kept (t' := s1.toks) fun b o e => Heap.get?_push_of_some _ e, turn_list p _, ⟨_, Heap.get?_push_size _ rfl, rfl, rfl⟩, fun b hb => ?_, xs, st1, F1, ρ1, p1, R1, itd_list e1 q, h1⟩
        have e : b = s1.heap.objs.size := by simpa using hb
        subst e
        exact I1.fpOk (Nat.le_refl _) (I1.hok.fresh (Nat.le_refl _))
    · exact h1.elim
  · exact h1.elim
/-- range(j), range(i, j) -/
def rangeD (lo hi : Int) : List D := (List.range (hi - lo).toNat).map fun (k : Nat) => .int (lo + k)
def wRng1 (wa : DA) : DI := fun st Q E => wa st (fun ws st1 => match ws with
  | [.d (.int j)] => (-(2 ^ 62) ≤ j ∧ j < 2 ^ 62) ∧ Q (rangeD 0 j) st1
  | _ => False) E
def wRng2 (wa : DA) : DI := fun st Q E => wa st (fun ws st1 => match ws with
  | [.d (.int i), .d (.int j)] => (-(2 ^ 62) ≤ i ∧ i < 2 ^ 62 ∧ -(2 ^ 62) ≤ j ∧ j < 2 ^ 62) ∧ Q (rangeD i j) st1
  | _ => False) E
theorem itd_range {K : PySem.W.Frag} {F0 : Hp} {lo hi : Int} : ItD K F0 (Itr lo (hi - lo).toNat) (rangeD lo hi) where
  go := fun i F H s1 s2 h => by
    show i < (hi - lo).toNat
    simpa only [rangeD, List.length_map, List.length_range] using h
  yld := fun i F H x H' s1 s2 h y => by
    obtain ⟨rfl, rfl⟩ := y
    have h : i < (hi - lo).toNat := by simpa only [rangeD, List.length_map, List.length_range] using h
    exact ⟨.int (lo + i), F, by unfold rangeD; rw [List.getElem?_map, List.getElem?_range h]; rfl, .refl _ _, rfl⟩
  stop := fun i F H s1 s2 h => by
    show (hi - lo).toNat ≤ i
    simpa only [rangeD, List.length_map, List.length_range] using h
theorem pid_range1 {wa : DA} {p : Pos} (hg : Gl X "range") (hm : X.mg "range" = none) (ha : PAD X n [a] wa) (hs : starEach [a] X.env = [(false, eval a X.env)] := by rfl) : PID X n tg (.Call (.Name "range" p) [a] [] pos) (wRng1 wa) :=
  pid_of (pi_range1 hg hm ha.pa hs) fun σ H F ρ st Q E R tk hw => by
    refine tA.use R tk hw fun vs ws st1 H1 F1 ρ1 p1 R1 r1 h1 => ?_
    split at h1
    · rename_i j
      obtain ⟨v, r, rfl, q, rfl⟩ := r1
      obtain rfl := (show v = .int j from q)
      have e : Itr 0 j.toNat = Itr 0 (j - 0).toNat := by rw [Int.sub_zero]
      exact ⟨j, rfl, h1.1.1, h1.1.2, _, st1, F1, ρ1, p1, R1, by rw [e]; exact itd_range, h1.2⟩
    · exact h1.elim
theorem pid_range2 {wa : DA} {p : Pos} (hg : Gl X "range") (hm : X.mg "range" = none) (ha : PAD X n [a, b] wa) (hs : starEach [a, b] X.env = [(false, eval a X.env), (false, eval b X.env)] := by rfl) (hs2 : starEach [b] X.env = [(false, eval b X.env)] := by rfl) :
    PID X n tg (.Call (.Name "range" p) [a, b] [] pos) (wRng2 wa) :=
  pid_of (pi_range2 hg hm ha.pa hs hs2) fun σ H F ρ st Q E R tk hw => by
    refine tA.use R tk hw fun vs ws st1 H1 F1 ρ1 p1 R1 r1 h1 => ?_
    split at h1
    · rename_i i j
      obtain ⟨v, r, rfl, q, v2, r2, rfl, q2, rfl⟩ := r1
      obtain rfl := (show v = .int i from q)
      obtain rfl := (show v2 = .int j from q2)
      exact ⟨i, j, rfl, h1.1, _, st1, F1, ρ1, p1, R1, itd_range, h1.2⟩
    · exact h1.elim

def wForL (g : DG) (tb : DS) (B : DEnds) : List D → Dst → Prop
  | [], st => B.nx st
  | x :: xs, st => g (.d x) st (fun st1 => tb { B with nx := wForL g tb B xs, ct := wForL g tb B xs, bk := B.nx } st1) B.ex
structure forP (g : DG) (tb : DS) (B : DEnds) (xs : List D) (st : Dst) : Prop where
  run : wForL g tb B xs st
def wFor (wi : DI) (g : DG) (tb : DS) : DS := fun D st => wi st (fun xs st1 => forP g tb D xs st1) D.ex
theorem psd_for {iter : Expr} {wi : DI} {g : DG} (hp : PassesOwn (model X.prog X.w) X.A X.env X.xe) (hc : X.calm = true) (hi : PID X n tg iter wi) (hg : PGD X n tg g) (hb : PSSD X n body t)
    (hs : ∀ x, foldedSetIterable iter X.env x = pure x := by intro _; rfl) : PSD X n (.For tg iter body [] pos) (wFor wi g t) :=
  psd_of (ps_for hp hc hi.pi hg.pg hb.pss hs) fun σ H F ρ st D R tk hw => by
    refine ⟨F, ρ, st, _, _, R, tk, hw, fun J xs st1 H1 F1 ρ1 p1 R1 it h1 => ?_⟩
    have h1 := h1.run
    refine ⟨fun i m σ' H' => m = xs.length - i ∧ i ≤ xs.length ∧ ∃ F' ρ' st', Post F1 ρ1 H1 F' ρ' H' ∧ Rl X.K n F' ρ' st' σ' H' ∧ wForL g t D (xs.drop i) st', ⟨xs.length, by simp, Nat.zero_le _, F1, ρ1, st1, Post.refl _ _ _, R1, h1⟩, ?_⟩
    rintro i m σ2 H2 ⟨rfl, hi, F2, ρ2, st2, p2, R2, h2⟩
    have p12 := p1.trans p2 R1.ok.dom
    by_cases hlt : i < xs.length
    · refine .inr ⟨it.go i F2 H2 p2.le R2.ok.sub hlt, fun σ' H' => i + 1 ≤ xs.length ∧ ∃ F' ρ' st', Post F1 ρ1 H1 F' ρ' H' ∧ Rl X.K n F' ρ' st' σ' H' ∧ wForL g t D (xs.drop (i + 1)) st', fun σ' H' ⟨l, q⟩ => ⟨xs.length - (i + 1), by omega, rfl, l, q⟩, fun x H' y => ?_⟩
      obtain ⟨d, F3, ed, gr, rd⟩ := it.yld i F2 H2 x H' p2.le R2.ok.sub hlt y
      obtain ⟨p3, R3⟩ := R2.grow gr
      have ed : xs[i] = d := by rw [List.getElem?_eq_getElem hlt] at ed; exact Option.some.inj ed
      have edr : xs.drop i = d :: xs.drop (i + 1) := by rw [List.drop_eq_getElem_cons hlt, ed]
      rw [edr] at h2
      have p13 := p2.trans p3 R2.ok.dom
      refine ⟨F3, ρ2, st2, .d d, _, _, R3, tk, rd, h2, fun σ4 H4 F4 ρ4 st4 p4 R4 h4 => ?_⟩
      have p14 := p13.trans p4 R3.ok.dom
      have p04 := p1.trans p14 R1.ok.dom
      refine tS.use R4 (by exact tk) h4 (fun σ' H' F' ρ' st' q R' z => ?_) (fun v w' H' F' ρ' μ q p0 ok rw z => ⟨w', F', ρ', μ, p04.trans q R4.ok.dom, p0, ok, rw, z⟩) (fun σ' H' F' ρ' st' q R' z => ⟨F', ρ', st', p04.trans q R4.ok.dom, R', z⟩) (fun σ' H' F' ρ' st' q R' z => ?_)
      · exact ⟨hlt, F', ρ', st', p14.trans q R4.ok.dom, R', z⟩
      · exact ⟨hlt, F', ρ', st', p14.trans q R4.ok.dom, R', z⟩
    · have e : i = xs.length := by omega
      subst e
      rw [List.drop_length] at h2
      exact .inl ⟨it.stop _ F2 H2 p2.le R2.ok.sub (Nat.le_refl _), F2, ρ2, st2, p12, R2, h2⟩

def wWhileN (c : DT) (tb : DS) (D : DEnds) : Nat → Dst → Prop
  | 0, _ => False
  | k + 1, st => c st (fun b st1 => brD b (tb { D with nx := wWhileN c tb D k, ct := wWhileN c tb D k, bk := D.nx } st1) (D.nx st1)) D.ex
def wWhile (c : DT) (tb : DS) : DS := fun D st => ∃ k, wWhileN c tb D k st
theorem psd_while {wc : DT} (hp : PassesOwn (model X.prog X.w) X.A X.env X.xe) (hc : PTD X n c wc) (hb : PSSD X n body t) : PSD X n (.While c body [] pos) (wWhile wc t) :=
  psd_of (ps_while hp hc.pt hb.pss) fun σ H F ρ st D R tk hw => by
    obtain ⟨k0, h0⟩ := hw
    refine ⟨fun m σ' H' => ∃ F' ρ' st', Post F ρ H F' ρ' H' ∧ Rl X.K n F' ρ' st' σ' H' ∧ wWhileN wc t D m st', ⟨k0, F, ρ, st, Post.refl _ _ _, R, h0⟩, ?_⟩
    rintro m σ2 H2 ⟨F2, ρ2, st2, p2, R2, h2⟩
    cases m with
    | zero => exact h2.elim
    | succ m =>
      refine tT.use R2 tk h2 fun b st3 H3 F3 ρ3 p3 R3 h3 => ?_
      have p23 := p2.trans p3 R2.ok.dom
      cases b with
      | false => have h3 := brD_f h3; exact ⟨F3, ρ3, st3, p23, R3, h3⟩
      | true =>
        have h3 := brD_t h3
        refine ⟨fun σ' H' => ∃ F' ρ' st', Post F ρ H F' ρ' H' ∧ Rl X.K n F' ρ' st' σ' H' ∧ wWhileN wc t D m st', fun σ' H' q => ⟨m, Nat.lt_succ_self _, q⟩, ?_⟩
        exact tS.use R3 (by exact tk) h3 (fun σ' H' F' ρ' st' q R' z => ⟨F', ρ', st', p23.trans q R3.ok.dom, R', z⟩) (fun v w' H' F' ρ' μ q p0 ok rw z => ⟨w', F', ρ', μ, p23.trans q R3.ok.dom, p0, ok, rw, z⟩)
          (fun σ' H' F' ρ' st' q R' z => ⟨F', ρ', st', p23.trans q R3.ok.dom, R', z⟩) (fun σ' H' F' ρ' st' q R' z => ⟨F', ρ', st', p23.trans q R3.ok.dom, R', z⟩)
end
end Dl
namespace Dl
open PySem PySem.Spec PyProof.Rows L2

structure PGW (X : Cx) (n : En) (target : Expr) (vs : List Nat) (g : DG) : Prop where
  run : ∀ (pins : List (Addr × Obj)) (s : Shared) (σ : L2.St) (H F : Hp) (ρ : List Addr) (st : Dst) (w : W) (v : V) (u : Value) (Q : Dst → Prop) (E : DX), Inv X pins σ H s → Rl X.K n F ρ st σ H → TkD X n E → RelV v u → RepW X.K F ρ w v → g w st Q E →
    wpAny (model X.prog X.w) X.A (assign target X.env u) (fun _ s' => ∃ σ' H' F' ρ' st', Inv X pins σ' H' s' ∧ Post F ρ H F' ρ' H' ∧ Rl X.K n F' ρ' st' σ' H' ∧ Q st' ∧ σ'.length = σ.length ∧ ∀ j, j ∉ vs → σ'[j]? = σ[j]?) X.xe s
def tGW (X : Cx) (n : En) (vs : List Nat) (g : DG) : TG := fun v σ H Q => ∃ F ρ st w DQ E, Rl X.K n F ρ st σ H ∧ TkD X n E ∧ RepW X.K F ρ w v ∧ g w st DQ E ∧ ∀ σ' H' F' ρ' st', Post F ρ H F' ρ' H' → Rl X.K n F' ρ' st' σ' H' → DQ st' → σ'.length = σ.length → (∀ j, j ∉ vs → σ'[j]? = σ[j]?) → Q σ' H'
section
variable {X : Cx} {n : En} {e a b c tg : Expr} {pos : Pos} {vs : List Nat} {g : DG}
theorem PGW.pg (h : PGW X n tg vs g) : PG X tg (tGW X n vs g) := by
  refine ⟨fun pins s σ H v u Q I r ⟨F, ρ, st, w, DQ, E, R, tk, rw, hw, k⟩ => ?_⟩
  exact thn (h.run pins s σ H F ρ st w v u DQ E I R tk r rw hw) fun _ s1 ⟨σ', H', F', ρ', st', I', p, R', q, l, z⟩ => ⟨σ', H', I', k _ _ _ _ _ p R' q l z⟩
theorem pgw_name {i : Nat} {x : Str} (hN : X.N.Nodup) (hv : i ∈ vs := by decide) (hi : X.N[i]? = some x := by rfl) (hx : Loc X.env.scope x := by first | exact Or.inl rfl | exact Or.inr rfl) (hf : X.fn x = true ∨ X.env.scope.names.lookup x = some .local := by first | exact .inl rfl | exact .inr rfl | assumption) : PGW X n (.Name x pos) vs (gN i) := by
  refine ⟨fun pins s σ H F ρ st w v u Q E I R tk r rw hw => ?_⟩
  refine thn ((pg_name (pos := pos) hN hi hx hf).run pins s σ H v u (fun σ' H' => σ' = σ.set i (some v) ∧ H' = H) I r ⟨rfl, rfl⟩) fun _ s1 ⟨σ', H', I', e1, e2⟩ => ?_
  subst e1 e2
  exact ⟨_, _, F, ρ, _, I', Post.refl _ _ _, R.set i rw, hw, by simp, fun j hj => by rw [List.getElem?_set_ne (fun z : i = j => hj (by rw [← z]; exact hv))]⟩
structure PGsW (X : Cx) (n : En) (ts : List Expr) (vs : List Nat) (g : DGs) : Prop where
  run : ∀ (pins : List (Addr × Obj)) (s : Shared) (σ : L2.St) (H F : Hp) (ρ : List Addr) (st : Dst) (ds : List D) (xs : List V) (us : List Value) (Q : Dst → Prop) (E : DX), Inv X pins σ H s → Rl X.K n F ρ st σ H → TkD X n E → Vals xs us → RepL X.K F ds xs → g ds st Q E →
    wpAny (model X.prog X.w) X.A (assignInOrder ((assignEach ts X.env).map (·.2)) us) (fun _ s' => ∃ σ' H' F' ρ' st', Inv X pins σ' H' s' ∧ Post F ρ H F' ρ' H' ∧ Rl X.K n F' ρ' st' σ' H' ∧ Q st' ∧ σ'.length = σ.length ∧ ∀ j, j ∉ vs → σ'[j]? = σ[j]?) X.xe s
theorem pgsw_nil : PGsW X n [] vs gsNil := by
  refine ⟨fun pins s σ H F ρ st ds xs us Q E I R tk r rw hw => ?_⟩
  cases ds with
  | cons _ _ => exact hw.elim
  | nil =>
    unfold RepL at rw; subst rw
    cases r
    exact assignInOrder_nil ⟨σ, H, F, ρ, st, I, Post.refl _ _ _, R, hw, rfl, fun _ _ => rfl⟩
theorem pgsw_cons {es : List Expr} {gs : DGs} (h1 : PGW X n e vs g) (h2 : PGsW X n es vs gs)
    (hs : (assignEach (e :: es) X.env).map (·.2) = assign e X.env :: (assignEach es X.env).map (·.2) := by rfl) : PGsW X n (e :: es) vs (gsCons g gs) := by
  refine ⟨fun pins s σ H F ρ st ds xs us Q E I R tk r rw hw => ?_⟩
  cases ds with
  | nil => exact hw.elim
  | cons d ds =>
    unfold RepL at rw
    obtain ⟨v, vr, rfl, r1, r2⟩ := rw
    cases r with
    | cons rv rr =>
      rw [hs]
      refine assignInOrder_cons (thn (h1.run pins s σ H F ρ st (.d d) v _ _ E I R tk rv r1 hw) fun _ s1 ⟨σ1, H1, F1, ρ1, st1, I1, p1, R1, q1, l1, z1⟩ => ?_)
      exact thn (h2.run pins s1 σ1 H1 F1 ρ1 st1 ds vr _ Q E I1 R1 tk rr (RepL.sub p1.le _ _ r2) q1) fun _ s2 ⟨σ2, H2, F2, ρ2, st2, I2, p2, R2, q2, l2, z2⟩ => ⟨σ2, H2, F2, ρ2, st2, I2, p1.trans p2 R1.ok.dom, R2, q2, l2.trans l1, fun j hj => (z2 j hj).trans (z1 j hj)⟩
theorem pgw_tup {es : List Expr} {k m : Nat} {gs : DGs} (hc : X.calm = true) (h : PGsW X n es vs gs)
    (hn : (assignEach es X.env).length = m := by rfl) (hst : (assignEach es X.env).findIdx? (·.1) = none := by rfl) : PGW X n (.Tuple es k pos) vs (gT m gs) := by
  refine ⟨fun pins s σ H F ρ st w v u Q E I R tk r rw hw => ?_⟩
  unfold gT at hw
  split at hw
  · rename_i xs
    obtain ⟨hl, hw⟩ := hw
    have rw : Rep X.K F (.tup xs) v := rw
    unfold Rep at rw
    obtain ⟨p, us, rfl, e1, q⟩ := rw
    cases r
    obtain ⟨its, rv, ht, hz⟩ := I.tuple (e1.sq R.ok.sub)
    refine assign_Tuple_tuple (I.ok.hd hc) ht (by simp [hn, ← hl, ← rv.length, q.len]) hst fun h' hx => ?_
    have I1 : Inv X pins σ H { s with heap := h' } := I.kept (t' := s.toks) fun b o e => hx b o (Nat.ne_of_lt (Heap.lt_size e)) e
    exact h.run pins _ σ H F ρ st xs us _ Q E I1 R tk (by simpa using rv) q hw
  · exact hw.elim
end
def wipeD (δ : List (Option W)) : List Nat → List (Option W)
  | [] => δ
  | v :: vs => (wipeD δ vs).set v none
theorem wipeD_len (δ : List (Option W)) : ∀ vs, (wipeD δ vs).length = δ.length
  | [] => rfl
  | v :: vs => by unfold wipeD; rw [List.length_set, wipeD_len δ vs]
theorem wipeD_some {δ : List (Option W)} {i : Nat} {w : W} : ∀ {vs : List Nat}, (wipeD δ vs)[i]? = some (some w) → δ[i]? = some (some w) ∧ i ∉ vs
  | [], h => ⟨h, by simp⟩
  | v :: vs, h => by
    unfold wipeD at h
    by_cases hi : v = i
    · subst hi
      by_cases hv : v < (wipeD δ vs).length
      · rw [List.getElem?_set_self hv] at h; cases h
      · rw [List.getElem?_eq_none (by simpa using hv)] at h; cases h
    · rw [List.getElem?_set_ne hi] at h
      obtain ⟨h1, h2⟩ := wipeD_some h
      exact ⟨h1, by simp only [List.mem_cons, not_or]; exact ⟨fun e => hi e.symm, h2⟩⟩
theorem wipe_at {σ : L2.St} {i : Nat} : ∀ {vs : List Nat}, i ∉ vs → (wipe σ vs)[i]? = σ[i]?
  | [], _ => rfl
  | v :: vs, h => by
    unfold wipe
    rw [List.getElem?_set_ne (fun e => h (by rw [e]; exact List.mem_cons_self)), wipe_at fun z => h (List.mem_cons_of_mem _ z)]
theorem wipe_in {σ : L2.St} {i : Nat} : ∀ {vs : List Nat}, i ∈ vs → i < σ.length → (wipe σ vs)[i]? = some none
  | v :: vs, h, hl => by
    unfold wipe
    by_cases e : v = i
    · subst e
      rw [List.getElem?_set_self (by rw [wipe_length]; exact hl)]
    · rw [List.getElem?_set_ne e]
      exact wipe_in ((List.mem_cons.mp h).resolve_left fun z => e z.symm) hl
theorem wipe_eq {σ σ' : L2.St} {vs : List Nat} (l : σ'.length = σ.length) (h : ∀ j, j ∉ vs → σ'[j]? = σ[j]?) : wipe σ' vs = wipe σ vs := by
  refine List.ext_getElem? fun i => ?_
  by_cases hi : i ∈ vs
  · by_cases hl : i < σ.length
    · rw [wipe_in hi hl, wipe_in hi (by rw [l]; exact hl)]
    · rw [List.getElem?_eq_none (by rw [wipe_length, l]; omega), List.getElem?_eq_none (by rw [wipe_length]; omega)]
  · rw [wipe_at hi, wipe_at hi, h i hi]
theorem wipe_wipe {σ : L2.St} (vs : List Nat) : wipe (wipe σ vs) vs = wipe σ vs := wipe_eq (wipe_length σ vs) fun j hj => wipe_at hj
section
variable {K : PySem.W.Frag} {n : En} {F F1 : Hp} {ρ ρ1 : List Addr} {st : Dst} {σ : L2.St} {H H1 : Hp} {μ : List O}
theorem Rl.wipe (R : Rl K n F ρ st σ H) (vs : List Nat) : Rl K n F ρ ⟨wipeD st.δ vs, st.μ⟩ (L2.wipe σ vs) H :=
  ⟨R.ok, R.po, by show (wipeD st.δ vs).length = _; rw [wipeD_len, wipe_length, R.len], fun i w e => by
    obtain ⟨h1, h2⟩ := wipeD_some e
    obtain ⟨v, h3, h4⟩ := R.slots i w h1
    exact ⟨v, by rw [wipe_at h2]; exact h3, h4⟩⟩
/-- an object of the heap that is neither data nor in the store stays -/
theorem Post.own (p : Post F ρ H F1 ρ1 H1) {a : Addr} {o : HO} (f : F a = none) (h : H a = some o) (r : a ∉ ρ) : F1 a = none ∧ H1 a = some o ∧ a ∉ ρ1 := by
  refine ⟨?_, p.keep a o h r, fun z => ?_⟩
  · cases q : F1 a with
    | none => rfl
    | some u =>
      rcases p.new a (by rw [q]; simp) with z | z | z
      · exact absurd f z
      · rw [z] at h; cases h
      · exact absurd z r
  · rw [p.fresh a z r] at h; cases h
/-- such an object is written -/
theorem Post.wrote {F0 H0 : Hp} {ρ0 : List Addr} (p : Post F0 ρ0 H0 F ρ H) {a : Addr} {o : HO} (h0 : H0 a = none) : Post F0 ρ0 H0 F ρ (L2.upd H a o) :=
  ⟨p.le, p.pre, p.new, fun b u e r => by rw [upd_ne (ne_of_none e h0)]; exact p.keep b u e r, p.fresh⟩
theorem StOk.wrote (s : StOk K F ρ μ H) {a : Addr} {o : HO} (f : F a = none) (r : a ∉ ρ) : StOk K F ρ μ (L2.upd H a o) := by
  have ne : ∀ b, b ∈ ρ → b ≠ a := fun b hb e => r (e ▸ hb)
  refine ⟨fun b u e => by rw [upd_ne (ne_of_none e f)]; exact s.sub b u e, s.len, s.nd, fun b hb => by rw [upd_ne (ne b hb)]; exact s.dom b hb, fun i b u e1 e2 => ?_⟩
  exact (s.obj i b u e1 e2).mono (SubH.refl _) (fun z => z) fun w e => by rw [upd_ne (ne b (List.mem_of_getElem? e1))]; exact e
/-- it becomes data -/
theorem Post.froze {F0 H0 : Hp} {ρ0 : List Addr} (p : Post F0 ρ0 H0 F ρ H) {a : Addr} {o : HO} (h0 : H0 a = none) (f : F a = none) : Post F0 ρ0 H0 (L2.upd F a o) ρ H :=
  ⟨fun b u e => by
    have := p.le b u e
    rw [upd_ne (ne_of_none this f)]; exact this, p.pre, fun b e => by
    by_cases z : b = a
    · subst z; exact .inr (.inl h0)
    · rw [upd_ne z] at e; exact p.new b e, p.keep, p.fresh⟩
theorem StOk.froze (s : StOk K F ρ μ H) {a : Addr} {o : HO} (f : F a = none) (h : H a = some o) (r : a ∉ ρ) : StOk K (L2.upd F a o) ρ μ H := by
  have ne : ∀ b, b ∈ ρ → b ≠ a := fun b hb e => r (e ▸ hb)
  have sub : SubH F (L2.upd F a o) := fun b u e => by rw [upd_ne (ne_of_none e f)]; exact e
  refine ⟨fun b u e => ?_, s.len, s.nd, s.dom, fun i b u e1 e2 => ?_⟩
  · by_cases z : b = a
    · subst z; rw [upd_same] at e; cases e; exact h
    · rw [upd_ne z] at e; exact s.sub b u e
  · exact (s.obj i b u e1 e2).mono sub (fun z => by rw [upd_ne (ne b (List.mem_of_getElem? e1))]; exact z) fun w e => e
theorem Grow.keep (g : Grow F H F1 H1) {a : Addr} {o : HO} (f : F a = none) (h : H a = some o) : F1 a = none ∧ H1 a = some o := by
  induction g with
  | refl => exact ⟨f, h⟩
  | @lay F H F' H' p u hp g ih =>
    have ne : a ≠ p := ne_of_none h hp
    exact ih (by rw [upd_ne ne]; exact f) (by rw [upd_ne ne]; exact h)
end

def wLcL (g : DG) (tt : DT) (te : DE) (δ : List (Option W)) (Q : List D → List O → Prop) : List D → List D → List O → Prop
  | [], acc, μ => Q acc μ
  | x :: xs, acc, μ => g (.d x) ⟨δ, μ⟩ (fun st2 => tt st2 (fun b st3 => brD b (te st3 (fun y st4 => match y with
      | .d d => acc.length < 16777216 ∧ wLcL g tt te δ Q xs (acc ++ [d]) st4.μ
      | _ => False) (fun _ _ => False)) (wLcL g tt te δ Q xs acc st3.μ)) (fun _ _ => False)) (fun _ _ => False)
structure lcP (g : DG) (tt : DT) (te : DE) (δ : List (Option W)) (Q : List D → List O → Prop) (xs acc : List D) (μ : List O) : Prop where
  run : wLcL g tt te δ Q xs acc μ
def wLc (wi : DI) (g : DG) (tt : DT) (te : DE) (vs : List Nat) : DE := fun st Q E => wi st (fun xs st1 => lcP g tt te (wipeD st1.δ vs) (fun acc μ => Q (.d (.lst acc)) { st1 with μ := μ }) xs [] st1.μ) E
/-- the tests of a comprehension -/
structure PTsD (X : Cx) (n : En) (ifs : List Expr) (w : DT) : Prop where
  run : ∀ (pins : List (Addr × Obj)) (s : Shared) (σ : L2.St) (H F : Hp) (ρ : List Addr) (st : Dst) (Q : Bool → Dst → Prop) (E : DX), Inv X pins σ H s → Rl X.K n F ρ st σ H → TkD X n E → w st Q E →
    wpAny (model X.prog X.w) X.A (forIn ifs true fun c r => if r = true then do let ok ← isTrue c X.env (eval c X.env); pure (ForInStep.yield ok) else pure (ForInStep.yield r)) (TPD X n pins σ F ρ H Q) X.xe s
def wYes : DT := fun st Q _ => Q true st
section
variable {X : Cx} {n : En} {e a b c tg : Expr} {pos : Pos} {vs : List Nat} {g : DG}
theorem ptsd_nil : PTsD X n [] wYes := ⟨fun pins s σ H F ρ st Q E I R tk hw => wpAny_tests_nil ⟨st, H, F, ρ, I, Post.refl _ _ _, R, hw⟩⟩
theorem ptsd_one {w : DT} (h : PTD X n c w) : PTsD X n [c] w := ⟨fun pins s σ H F ρ st Q E I R tk hw => wpAny_tests_one (h.run pins s σ H F ρ st Q E I R tk hw)⟩
theorem PTsD.pts {ifs : List Expr} {w : DT} (h : PTsD X n ifs w) : PTs X ifs (tT X n w) := by
  refine ⟨fun pins s σ H Q I ⟨F, ρ, st, DQ, E, R, tk, hw, k⟩ => ?_⟩
  refine thn (h.run pins s σ H F ρ st DQ E I R tk hw) fun u s1 ⟨st', H', F', ρ', I', a, b, d⟩ => ?_
  exact ⟨H', I', k u st' H' F' ρ' a b d⟩
theorem takes_no {X : Cx} {n : En} (h : X.xe = fun _ _ => False) : TkD X n (fun _ _ => False) := fun u s' x => by
  obtain ⟨_, _, _, _, _, _, _, _, _, _, _, _, _, _, _, _, _, _, _, _, _, _, z⟩ := x
  exact z.elim
/-- the block's readings, in its own context -/
abbrev BlkP (X : Cx) (scope : Scope) (P : Cx → Prop) : Prop := ∀ (s : Shared) (H : Hp) (C : Addr) (cl : List (Str × Addr)) (fp : List Addr), P (X.blk s H scope (compEnvC scope cl C X.env) fp)
def tGWb (X : Cx) (n : En) (scope : Scope) (vs : List Nat) (g : DG) : TG := fun v σ H Q => ∃ F ρ st w DQ, Rl X.K n F ρ st σ H ∧ RepW X.K F ρ w v ∧ g w st DQ (fun _ _ => False) ∧ ∀ σ' H' F' ρ' st', Post F ρ H F' ρ' H' → Rl X.K n F' ρ' st' σ' H' → DQ st' → σ'.length = σ.length → (∀ j, j ∉ vs → σ'[j]? = σ[j]?) → Q σ' H'
def tTb (X : Cx) (n : En) (w : DT) : TT := fun σ H Q => ∃ F ρ st DQ, Rl X.K n F ρ st σ H ∧ w st DQ (fun _ _ => False) ∧
  ∀ b st' H' F' ρ', Post F ρ H F' ρ' H' → Rl X.K n F' ρ' st' σ H' → DQ b st' → Q b H'
def tEb (X : Cx) (n : En) (w : DE) : TE := fun σ H Q => ∃ F ρ st DQ, Rl X.K n F ρ st σ H ∧ w st DQ (fun _ _ => False) ∧
  ∀ v w' st' H' F' ρ', Post F ρ H F' ρ' H' → Rl X.K n F' ρ' st' σ H' → RepW X.K F' ρ' w' v → DQ w' st' → Q v H'
theorem lc_sim {wi : DI} {tt : DT} {te : DE} {scope : Scope} {σ : L2.St} {H F : Hp} {ρ : List Addr} {st : Dst} {Q : DQ} {E : DX} {k : VK} (R : Rl X.K n F ρ st σ H) (tk : TkD X n E) (h : wLc wi g tt te vs st Q E) (hk : ∀ v H', qE X n σ F ρ H Q v H' → k v H') :
    tLc (tID X n wi) (tGWb X n scope vs g) (tTb X n tt) (tEb X n te) vs σ H k := by
  refine ⟨F, ρ, st, _, E, R, tk, h, fun J xs st1 H1 F1 ρ1 p1 R1 it h1 => ?_⟩
  have h1 := h1.run
  intro L hL
  have fL : F1 L = none := by
    cases q : F1 L with
    | none => rfl
    | some u => rw [R1.ok.sub L u q] at hL; cases hL
  have rL : L ∉ ρ1 := fun z => R1.ok.dom L z hL
  refine ⟨fun i m H' => m = xs.length - i ∧ i ≤ xs.length ∧ ∃ F' ρ' μ acc us, Post F1 ρ1 H1 F' ρ' H' ∧ StOk X.K F' ρ' μ H' ∧ F' L = none ∧ L ∉ ρ' ∧ H' L = some (.lst us) ∧ RepL X.K F' acc us ∧
      wLcL g tt te (wipeD st1.δ vs) (fun acc μ => Q (.d (.lst acc)) { st1 with μ := μ }) (xs.drop i) acc μ,
    ⟨xs.length, by simp, Nat.zero_le _, F1, ρ1, st1.μ, [], [], (Post.refl _ _ _).wrote hL, R1.ok.wrote fL rL, fL, rL, upd_same, RepL.nil, h1⟩, ?_⟩
  rintro i m H2 ⟨rfl, hi, F2, ρ2, μ2, acc, us, p2, ok2, f2, r2, e2, ra, h2⟩
  by_cases hlt : i < xs.length
  · refine .inr ⟨it.go i F2 H2 p2.le ok2.sub hlt, fun H' => i + 1 ≤ xs.length ∧ ∃ F' ρ' μ acc us, Post F1 ρ1 H1 F' ρ' H' ∧ StOk X.K F' ρ' μ H' ∧ F' L = none ∧ L ∉ ρ' ∧ H' L = some (.lst us) ∧ RepL X.K F' acc us ∧
      wLcL g tt te (wipeD st1.δ vs) (fun acc μ => Q (.d (.lst acc)) { st1 with μ := μ }) (xs.drop (i + 1)) acc μ, fun H' ⟨l, q⟩ => ⟨xs.length - (i + 1), by omega, rfl, l, q⟩, fun x H' y => ?_⟩
    obtain ⟨d, F3, ed, gr, rd⟩ := it.yld i F2 H2 x H' p2.le ok2.sub hlt y
    have ed : xs[i] = d := by rw [List.getElem?_eq_getElem hlt] at ed; exact Option.some.inj ed
    have edr : xs.drop i = d :: xs.drop (i + 1) := by rw [List.drop_eq_getElem_cons hlt, ed]
    rw [edr] at h2
    have R2 : Rl X.K n F2 ρ2 ⟨wipeD st1.δ vs, μ2⟩ (L2.wipe σ vs) H2 := (R1.wipe vs).step p2 ok2
    obtain ⟨p3, R3⟩ := R2.grow gr
    have p13 := p2.trans p3 ok2.dom
    obtain ⟨f3, e3⟩ := gr.keep f2 e2
    refine ⟨F3, ρ2, _, .d d, _, R3, rd, h2, fun σ4 H4 F4 ρ4 st4 p4 R4 h4 l4 z4 => ⟨?_, ?_⟩⟩
    · exact (wipe_eq l4 z4).trans (wipe_wipe vs)
    have p14 := p13.trans p4 R3.ok.dom
    obtain ⟨f4, e4, r4⟩ := p4.own f3 e3 r2
    have p24 := p3.trans p4 R3.ok.dom
    refine ⟨F4, ρ4, st4, _, R4, h4, fun bb st5 H5 F5 ρ5 p5 R5 h5 => ?_⟩
    have p15 := p14.trans p5 R4.ok.dom
    obtain ⟨f5, e5, r5⟩ := p5.own f4 e4 r4
    have p25 := p24.trans p5 R4.ok.dom
    cases bb with
    | false => have h5 := brD_f h5; exact ⟨hlt, F5, ρ5, st5.μ, acc, us, p15, R5.ok, f5, r5, e5, RepL.sub p25.le _ _ ra, h5⟩
    | true =>
      have h5 := brD_t h5
      refine ⟨F5, ρ5, st5, _, R5, h5, fun v w6 st6 H6 F6 ρ6 p6 R6 rw h6 => ?_⟩
      have p16 := p15.trans p6 R5.ok.dom
      obtain ⟨f6, e6, r6⟩ := p6.own f5 e5 r5
      have p26 := p25.trans p6 R5.ok.dom
      cases w6 <;> first | exact h6.elim | skip
      rename_i d6
      have ra6 := RepL.sub p26.le _ _ ra
      refine ⟨us, e6, by rw [← ra6.len, sizeLine_eq]; exact h6.1, hlt, F6, ρ6, st6.μ, acc ++ [d6], us ++ [v], p16.wrote hL, R6.ok.wrote f6 r6, f6, r6, upd_same, ra6.app (RepL.one rw), h6.2⟩
  · have e : i = xs.length := by omega
    subst e
    rw [List.drop_length] at h2
    refine .inl ⟨it.stop _ F2 H2 p2.le ok2.sub (Nat.le_refl _), hk _ _ ⟨.d (.lst acc), { st1 with μ := μ2 }, L2.upd F2 L (.lst us), ρ2, p1.trans (p2.froze hL f2) R1.ok.dom, R1.step (p2.froze hL f2) (ok2.froze f2 e2 r2), ?_, h2⟩⟩
    show Rep _ _ (.lst acc) _
    unfold Rep
    exact ⟨L, us, rfl, upd_same, RepL.sub (fun b u e => by rw [upd_ne (ne_of_none e f2)]; exact e) _ _ ra⟩
theorem blk_g {scope : Scope} (hg : BlkP X scope fun Y => PGW Y n tg vs g) : ∀ (s : Shared) (H : Hp) (C : Addr) (cl : List (Str × Addr)) (fp : List Addr), PG (X.blk s H scope (compEnvC scope cl C X.env) fp) tg (tGWb X n scope vs g) := fun s H C cl fp => by
  refine ⟨fun pins s' σ H' v u Q I r ⟨F, ρ, st, w, DQ, R, rw, hw, k⟩ => ?_⟩
  exact thn ((hg s H C cl fp).run pins s' σ H' F ρ st w v u DQ _ I R (takes_no rfl) r rw hw) fun _ s1 ⟨σ', H', F', ρ', st', I', p, R', q, l, z⟩ => ⟨σ', H', I', k _ _ _ _ _ p R' q l z⟩
theorem blk_t {scope : Scope} {ifs : List Expr} {tt : DT} (hg : BlkP X scope fun Y => PTsD Y n ifs tt) : ∀ (s : Shared) (H : Hp) (C : Addr) (cl : List (Str × Addr)) (fp : List Addr), PTs (X.blk s H scope (compEnvC scope cl C X.env) fp) ifs (tTb X n tt) := fun s H C cl fp => by
  refine ⟨fun pins s' σ H' Q I ⟨F, ρ, st, DQ, R, hw, k⟩ => ?_⟩
  exact thn ((hg s H C cl fp).run pins s' σ H' F ρ st DQ _ I R (takes_no rfl) hw) fun u s1 ⟨st', H', F', ρ', I', a, b, d⟩ => ⟨H', I', k u st' H' F' ρ' a b d⟩
theorem blk_e {scope : Scope} {elt : Expr} {te : DE} (hg : BlkP X scope fun Y => PD Y n elt te) : ∀ (s : Shared) (H : Hp) (C : Addr) (cl : List (Str × Addr)) (fp : List Addr), PE (X.blk s H scope (compEnvC scope cl C X.env) fp) elt (tEb X n te) := fun s H C cl fp => by
  refine ⟨fun pins s' σ H' Q I ⟨F, ρ, st, DQ, R, hw, k⟩ => ?_⟩
  exact thn ((hg s H C cl fp).run pins s' σ H' F ρ st DQ _ I R (takes_no rfl) hw) fun u s1 ⟨v, w', st', H', F', ρ', I', r, a, b, c, d⟩ => ⟨v, H', I', r, k v w' st' H' F' ρ' a b c d⟩
theorem pd_lc {elt iter : Expr} {ifs : List Expr} {scope : Scope} (own : List (Str × Nat)) {wi : DI} {tt : DT} {te : DE} (hc : X.calm = true) (hN : X.N.Nodup) (hi : PID X n tg iter wi) (ok : BlkOk X.N X.env.scope scope own)
    (hg : BlkP X scope fun Y => PGW Y n tg (own.map (·.2)) g) (ht : BlkP X scope fun Y => PTsD Y n ifs tt) (he : BlkP X scope fun Y => PD Y n elt te) (hs : ∀ x, foldedSetIterable iter X.env x = pure x := by intro _; rfl) :
    PD X n (.ListComp elt [⟨tg, iter, ifs, 0⟩] scope pos) (wLc wi g tt te (own.map (·.2))) :=
  pd_of (pe_lc hc hN hi.pi ok (blk_g hg) (blk_t ht) (blk_e he) hs) fun σ H F ρ st Q E R tk hw => lc_sim R tk hw fun _ _ q => q
theorem psd_setLc {i : Nat} {y : Str} {py spos : Pos} {elt iter : Expr} {ifs : List Expr} {scope : Scope} (own : List (Str × Nat)) {wi : DI} {tt : DT} {te : DE} (hc : X.calm = true) (hN : X.N.Nodup) (hi : PID X n tg iter wi) (ok : BlkOk X.N X.env.scope scope own)
    (hg : BlkP X scope fun Y => PGW Y n tg (own.map (·.2)) g) (ht : BlkP X scope fun Y => PTsD Y n ifs tt) (he : BlkP X scope fun Y => PD Y n elt te)
    (hsw : swapsWith (.ListComp elt [⟨tg, iter, ifs, 0⟩] scope pos) (some (.Name y py)) spos.line X.env = pure true) (hy : X.N[i]? = some y := by rfl) (hyl : X.env.scope.names.lookup y = some .local := by rfl) (hs : ∀ x, foldedSetIterable iter X.env x = pure x := by intro _; rfl) :
    PSD X n (.Assign [.Name y py] (.ListComp elt [⟨tg, iter, ifs, 0⟩] scope pos) spos) (wAsg (wLc wi g tt te (own.map (·.2))) (gN i)) :=
  psd_of (ps_setLc hc hN hy hyl hsw hi.pi ok (blk_g hg) (blk_t ht) (blk_e he) hs) fun σ H F ρ st D R tk hw => lc_sim (scope := scope) (k := fun x H1 => gName i x σ H1 (qD X n F ρ H D).nx) R tk hw fun v H' ⟨w', st', F', ρ', p, R', r, q⟩ => ⟨F', ρ', _, p, R'.set i r, q⟩
end
end Dl
namespace Dl
open PySem PySem.Spec PyProof.Rows L2

abbrev DSp := List W → List O → (W → List O → Prop) → (Ex → List O → Prop) → Prop
def SpD (K : PySem.W.Frag) (m : Nat) (c : DSp) : Sp := fun vs H Q E => ∃ F ρ μ ws QD ED, StOk K F ρ μ H ∧ RepWL K F ρ ws vs ∧ ws.length = m ∧ c ws μ QD ED ∧
  (∀ w μ' v F' ρ' H', QD w μ' → Post F ρ H F' ρ' H' → StOk K F' ρ' μ' H' → RepW K F' ρ' w v → Q v H') ∧ (∀ x μ' cls d F' ρ' H', ED x μ' → Post F ρ H F' ρ' H' → StOk K F' ρ' μ' H' → ExRep K F' x cls d H' → E cls d H')
structure FnD (P : Program) (w : World) (K : PySem.W.Frag) (mg : Str → Option Value) (base : Heap) (x : Str) (k m : Nat) (c : DSp) : Prop where
  ex : ∃ f fd ps, FnOk P w K mg base (L2.CX P w) k f fd ps (SpD K m c) ∧ mg x = some (.ref f) ∧ PySem.W.keepIn K (.ref f) = true ∧ Binds K fd ps []

def locs : List W → List Nat
  | [] => []
  | .loc n :: ws => if n ∈ locs ws then locs ws else n :: locs ws
  | _ :: ws => locs ws
def ren (ls : List Nat) : W → W
  | .loc n => .loc (ls.idxOf n)
  | w => w
def unren (ls : List Nat) (N : Nat) : W → W
  | .loc j => match ls[j]? with
    | some n => .loc n
    | none => .loc (N + (j - ls.length))
  | w => w
def putB (μ : List O) : List Nat → List O → List O
  | [], os => μ ++ os
  | l :: ls, o :: os => (putB μ ls os).set l o
  | _ :: _, [] => μ
theorem locs_nd : ∀ ws : List W, (locs ws).Nodup
  | [] => List.nodup_nil
  | .loc n :: ws => by
    unfold locs
    split
    · exact locs_nd ws
    · rename_i h; exact List.nodup_cons.mpr ⟨h, locs_nd ws⟩
  | .d _ :: ws => locs_nd ws
  | .scr _ :: ws => locs_nd ws
theorem locs_mem {n : Nat} : ∀ {ws : List W}, W.loc n ∈ ws → n ∈ locs ws
  | .loc m :: ws, h => by
    unfold locs
    rcases List.mem_cons.mp h with e | h
    · cases e
      split
      · assumption
      · exact List.mem_cons_self
    · split
      · exact locs_mem h
      · exact List.mem_cons_of_mem _ (locs_mem h)
  | .d _ :: ws, h => locs_mem (ws := ws) ((List.mem_cons.mp h).resolve_left fun z => by cases z)
  | .scr _ :: ws, h => locs_mem (ws := ws) ((List.mem_cons.mp h).resolve_left fun z => by cases z)
theorem mem_locs {n : Nat} : ∀ {ws : List W}, n ∈ locs ws → W.loc n ∈ ws
  | [], h => by cases h
  | .loc m :: ws, h => by
    unfold locs at h
    split at h
    · exact List.mem_cons_of_mem _ (mem_locs h)
    · rcases List.mem_cons.mp h with e | h
      · subst e; exact List.mem_cons_self
      · exact List.mem_cons_of_mem _ (mem_locs h)
  | .d _ :: ws, h => List.mem_cons_of_mem _ (mem_locs (ws := ws) h)
  | .scr _ :: ws, h => List.mem_cons_of_mem _ (mem_locs (ws := ws) h)
section
variable {K : PySem.W.Frag} {F F1 : Hp} {ρ ρ1 : List Addr} {H H1 : Hp} {μ : List O}
/-- the addresses of the view -/
def vw (ρ : List Addr) (ls : List Nat) : List Addr := ls.map fun l => ρ.getD l 0
def vwO (μ : List O) (ls : List Nat) : List O := ls.map fun l => μ.getD l .dead
theorem vw_get {ls : List Nat} {j l : Nat} (h : ls[j]? = some l) : (vw ρ ls)[j]? = some (ρ.getD l 0) := by
  unfold vw; rw [List.getElem?_map, h]; rfl
theorem getD_of {ρ : List Addr} {l : Nat} (h : l < ρ.length) : ρ[l]? = some (ρ.getD l 0) := by
  simp [List.getD, h]
theorem RepWL.mem : ∀ {ws : List W} {vs : List V} {n : Nat}, RepWL K F ρ ws vs → W.loc n ∈ ws → n < ρ.length
  | w :: ws, _, n, h, m => by
    obtain ⟨v, r, rfl, q, t⟩ := h
    rcases List.mem_cons.mp m with e | m
    · subst e
      obtain ⟨a, e, _⟩ := q
      exact (List.getElem?_eq_some_iff.mp e).1
    · exact t.mem m
theorem ren_rep {ls : List Nat} (hl : ∀ l ∈ ls, l < ρ.length) : ∀ {ws : List W} {vs : List V}, RepWL K F ρ ws vs → (∀ n, W.loc n ∈ ws → n ∈ ls) → RepWL K F (vw ρ ls) (ws.map (ren ls)) vs
  | [], _, h, _ => h
  | w :: ws, _, h, m => by
    obtain ⟨v, r, rfl, q, t⟩ := h
    refine ⟨v, r, rfl, ?_, ren_rep hl t fun n z => m n (List.mem_cons_of_mem _ z)⟩
    cases w with
    | d x => exact q
    | scr xs => exact q
    | loc n =>
      obtain ⟨a, e, rfl⟩ := q
      have hm := m n List.mem_cons_self
      have hi : ls[ls.idxOf n]? = some n := by
        have := List.idxOf_lt_length_of_mem hm
        rw [List.getElem?_eq_getElem this, List.getElem_idxOf]
      refine ⟨a, ?_, rfl⟩
      rw [vw_get hi, ← getD_of (hl n hm)]
      exact e
theorem vw_mem {ls : List Nat} (hl : ∀ l ∈ ls, l < ρ.length) {a : Addr} (h : a ∈ vw ρ ls) : a ∈ ρ := by
  unfold vw at h
  obtain ⟨l, h1, rfl⟩ := List.mem_map.mp h
  exact List.mem_of_getElem? (getD_of (hl l h1))
theorem vw_nd (nd : ρ.Nodup) : ∀ {ls : List Nat}, ls.Nodup → (∀ l ∈ ls, l < ρ.length) → (vw ρ ls).Nodup
  | [], _, _ => List.nodup_nil
  | l :: ls, h, hl => by
    obtain ⟨h1, h2⟩ := List.nodup_cons.mp h
    refine List.nodup_cons.mpr ⟨fun z => ?_, vw_nd nd h2 fun x hx => hl x (List.mem_cons_of_mem _ hx)⟩
    obtain ⟨l', m, e⟩ := List.mem_map.mp z
    have a1 := getD_of (ρ := ρ) (hl l List.mem_cons_self)
    have a2 := getD_of (ρ := ρ) (hl l' (List.mem_cons_of_mem _ m))
    rw [e] at a2
    have : l' = l := by
      obtain ⟨b1, c1⟩ := List.getElem?_eq_some_iff.mp a1
      obtain ⟨b2, c2⟩ := List.getElem?_eq_some_iff.mp a2
      exact (List.getElem_inj nd).mp (c2.trans c1.symm)
    exact h1 (this ▸ m)
theorem StOk.view (s : StOk K F ρ μ H) {ls : List Nat} (hn : ls.Nodup) (hl : ∀ l ∈ ls, l < ρ.length) : StOk K F (vw ρ ls) (vwO μ ls) H := by
  refine ⟨s.sub, by simp [vw, vwO], vw_nd s.nd hn hl, fun a h => s.dom a (vw_mem hl h), fun i a o e1 e2 => ?_⟩
  have e2 : (ls.map fun l => μ.getD l .dead)[i]? = some o := e2
  rw [List.getElem?_map] at e2
  cases q : ls[i]? with
  | none => rw [q] at e2; cases e2
  | some l =>
    rw [q] at e2
    have e2 : μ.getD l .dead = o := Option.some.inj e2
    rw [vw_get q] at e1
    have lt := hl l (List.mem_of_getElem? q)
    refine s.obj l a o (by rw [getD_of lt]; exact e1) ?_
    have : l < μ.length := by rw [← s.len]; exact lt
    rw [← e2]; simp [List.getD, this]
theorem putB_len {μ : List O} : ∀ {ls : List Nat} {os : List O}, ls.length ≤ os.length → (putB μ ls os).length = μ.length + (os.length - ls.length)
  | [], os, _ => by simp [putB]
  | l :: ls, [], h => by simp at h
  | l :: ls, o :: os, h => by
    unfold putB
    rw [List.length_set, putB_len (by simpa using h)]
    simp
theorem putB_new {μ : List O} : ∀ {ls : List Nat} {os : List O} {i : Nat}, ls.length ≤ os.length → (∀ l ∈ ls, l < μ.length) → (putB μ ls os)[μ.length + i]? = os[ls.length + i]?
  | [], os, i, _, _ => by
    show (μ ++ os)[μ.length + i]? = os[0 + i]?
    rw [List.getElem?_append_right (by omega)]
    congr 1; omega
  | l :: ls, [], i, h, _ => by simp at h
  | l :: ls, o :: os, i, h, hl => by
    unfold putB
    have := hl l List.mem_cons_self
    rw [List.getElem?_set_ne (by omega), putB_new (by simpa using h) fun x hx => hl x (List.mem_cons_of_mem _ hx)]
    rw [show (l :: ls).length + i = (ls.length + i) + 1 by simp; omega]
    simp
theorem putB_old {μ : List O} : ∀ {ls : List Nat} {os : List O} {i : Nat}, ls.length ≤ os.length → i ∉ ls → i < μ.length → (putB μ ls os)[i]? = μ[i]?
  | [], os, i, _, _, h => by simp [putB, List.getElem?_append_left h]
  | l :: ls, [], i, h, _, _ => by simp at h
  | l :: ls, o :: os, i, h, hn, hi => by
    unfold putB
    rw [List.getElem?_set_ne (fun z => hn (by rw [z]; exact List.mem_cons_self)), putB_old (by simpa using h) (fun z => hn (List.mem_cons_of_mem _ z)) hi]
theorem putB_in {μ : List O} : ∀ {ls : List Nat} {os : List O} {j l : Nat}, ls.Nodup → ls.length ≤ os.length → (∀ l ∈ ls, l < μ.length) → ls[j]? = some l → (putB μ ls os)[l]? = os[j]?
  | [], os, j, l, _, _, _, h => by simp at h
  | x :: ls, [], j, l, _, h, _, _ => by simp at h
  | x :: ls, o :: os, 0, l, hn, hz, hl, h => by
    simp at h; subst h
    unfold putB
    have hx := hl x List.mem_cons_self
    rw [List.getElem?_set_self (by rw [putB_len (by simpa using hz)]; omega)]
    rfl
  | x :: ls, o :: os, j + 1, l, hn, hz, hl, h => by
    unfold putB
    have h : ls[j]? = some l := by simpa using h
    obtain ⟨n1, n2⟩ := List.nodup_cons.mp hn
    rw [List.getElem?_set_ne (fun z => n1 (by rw [z]; exact List.mem_of_getElem? h)), putB_in n2 (by simpa using hz) (fun x hx => hl x (List.mem_cons_of_mem _ hx)) h]
    simp
/-- behind a call that saw a view -/
theorem view_back (s : StOk K F ρ μ H) {ls : List Nat} (hn : ls.Nodup) (hl : ∀ l ∈ ls, l < ρ.length) {ρ' : List Addr} {μ' : List O} (p : Post F (vw ρ ls) H F1 ρ' H1) (s' : StOk K F1 ρ' μ' H1) :
    ∃ t, ρ' = vw ρ ls ++ t ∧ Post F ρ H F1 (ρ ++ t) H1 ∧ StOk K F1 (ρ ++ t) (putB μ ls μ') H1 := by
  obtain ⟨t, e⟩ := p.pre
  have lv : (vw ρ ls).length = ls.length := by simp [vw]
  have l' : μ'.length = ls.length + t.length := by rw [← s'.len, e, List.length_append, lv]
  have hz : ls.length ≤ μ'.length := by omega
  have hlm : ∀ l ∈ ls, l < μ.length := fun l h => by rw [← s.len]; exact hl l h
  have ht : ∀ a, a ∈ t → a ∈ ρ' ∧ a ∉ vw ρ ls ∧ H a = none := fun a ha => by
    have h1 : a ∈ ρ' := by rw [e]; exact List.mem_append_right _ ha
    have h2 : a ∉ vw ρ ls := fun z => by
      have := s'.nd
      rw [e] at this
      exact (List.nodup_append.mp this).2.2 a z a ha rfl
    exact ⟨h1, h2, p.fresh a h1 h2⟩
  have P : Post F ρ H F1 (ρ ++ t) H1 := by
    refine ⟨p.le, ⟨t, rfl⟩, fun b h => ?_, fun b o h nb => p.keep b o h fun z => nb (vw_mem hl z), fun b h nb => ?_⟩
    · rcases p.new b h with z | z | z
      · exact .inl z
      · exact .inr (.inl z)
      · exact .inr (.inr (vw_mem hl z))
    · rcases List.mem_append.mp h with z | z
      · exact absurd z nb
      · exact (ht b z).2.2
  refine ⟨t, e, P, s'.sub, ?_, ?_, fun a h => ?_, fun i a o e1 e2 => ?_⟩
  · rw [List.length_append, putB_len hz, s.len]; omega
  · refine List.nodup_append.mpr ⟨s.nd, ?_, fun a ha b hb z => ?_⟩
    · have := s'.nd
      rw [e] at this
      exact (List.nodup_append.mp this).2.1
    · subst z
      exact s.dom a ha (ht a hb).2.2
  · rcases List.mem_append.mp h with z | z
    · by_cases hv : a ∈ vw ρ ls
      · exact s'.dom a (by rw [e]; exact List.mem_append_left _ hv)
      · cases q : H a with
        | none => exact absurd q (s.dom a z)
        | some u => rw [p.keep a u q hv]; simp
    · exact s'.dom a (ht a z).1
  · by_cases hi : i < ρ.length
    · rw [List.getElem?_append_left hi] at e1
      by_cases hm : i ∈ ls
      · obtain ⟨j, hj, ej⟩ := List.mem_iff_getElem.mp hm
        have ej : ls[j]? = some i := by rw [List.getElem?_eq_getElem hj, ej]
        rw [putB_in hn hz hlm ej] at e2
        refine s'.obj j a o ?_ e2
        rw [e, List.getElem?_append_left (by rw [lv]; exact hj), vw_get ej, ← getD_of hi]
        exact e1
      · rw [putB_old hz hm (by rw [← s.len]; exact hi)] at e2
        have am : a ∈ ρ := List.mem_of_getElem? e1
        have nv : a ∉ vw ρ ls := fun z => by
          obtain ⟨l, h1, h2⟩ := List.mem_map.mp z
          have h3 := getD_of (ρ := ρ) (hl l h1)
          rw [h2] at h3
          obtain ⟨b1, c1⟩ := List.getElem?_eq_some_iff.mp h3
          obtain ⟨b2, c2⟩ := List.getElem?_eq_some_iff.mp e1
          have : l = i := (List.getElem_inj s.nd).mp (c1.trans c2.symm)
          exact hm (this ▸ h1)
        refine (s.obj i a o e1 e2).mono p.le (fun z => ?_) fun u hu => p.keep a u hu nv
        cases q : F1 a with
        | none => rfl
        | some u =>
          rcases p.new a (by rw [q]; simp) with y | y | y
          · exact absurd z y
          · exact absurd y (s.dom a am)
          · exact absurd y nv
    · rw [List.getElem?_append_right (by omega)] at e1
      have e2 : (putB μ ls μ')[μ.length + (i - ρ.length)]? = some o := by rw [← s.len, show ρ.length + (i - ρ.length) = i by omega]; exact e2
      rw [putB_new hz hlm] at e2
      refine s'.obj _ a o ?_ e2
      rw [e, List.getElem?_append_right (by rw [lv]; omega), lv, show ls.length + (i - ρ.length) - ls.length = i - ρ.length by omega]
      exact e1
theorem unren_rep {ls : List Nat} {t : List Addr} (hl : ∀ l ∈ ls, l < ρ.length) {w : W} {v : V} (h : RepW K F (vw ρ ls ++ t) w v) : RepW K F (ρ ++ t) (unren ls ρ.length w) v := by
  have lv : (vw ρ ls).length = ls.length := by simp [vw]
  cases w with
  | d x => exact h
  | scr xs => exact h
  | loc j =>
    obtain ⟨a, e, rfl⟩ := h
    show RepW K F (ρ ++ t) (match ls[j]? with
      | some n => .loc n
      | none => .loc (ρ.length + (j - ls.length))) (.ref a)
    cases q : ls[j]? with
    | some l =>
      have hj := (List.getElem?_eq_some_iff.mp q).1
      rw [List.getElem?_append_left (by rw [lv]; exact hj), vw_get q, ← getD_of (hl l (List.mem_of_getElem? q))] at e
      refine ⟨a, ?_, rfl⟩
      rw [List.getElem?_append_left (hl l (List.mem_of_getElem? q))]; exact e
    | none =>
      have hj : ls.length ≤ j := List.getElem?_eq_none_iff.mp q
      rw [List.getElem?_append_right (by rw [lv]; exact hj), lv] at e
      refine ⟨a, ?_, rfl⟩
      rw [List.getElem?_append_right (by omega)]
      rw [show ρ.length + (j - ls.length) - ρ.length = j - ls.length by omega]; exact e
end

structure wFn (c : DSp) (ws : List W) (st1 : Dst) (Q : DQ) (E : DX) : Prop where
  ap :   c (ws.map (ren (locs ws))) (vwO st1.μ (locs ws)) (fun w μ' => Q (unren (locs ws) st1.μ.length w) { st1 with μ := putB st1.μ (locs ws) μ' }) (fun x μ' => E x { st1 with μ := putB st1.μ (locs ws) μ' })
def wCallD (c : DSp) (wa : DA) : DE := fun st Q E => wa st (fun ws st1 => wFn c ws st1 Q E) E
section
variable {X : Cx} {n : En} {e o : Expr} {es : List Expr} {pos p : Pos}
/-- the callee's promise at the call -/
theorem call_sp {m : Nat} {c : DSp} {σ : L2.St} {H F : Hp} {ρ : List Addr} {st : Dst} {vs : List V} {ws : List W} {Q : DQ} {E : DX} (R : Rl X.K n F ρ st σ H) (r : RepWL X.K F ρ ws vs) (hm : ws.length = m) (h : wFn c ws st Q E) {EX : XK}
    (hE : ∀ cls d H', (∃ st' F' ρ' x, Rl X.K n F' ρ' st' σ H' ∧ ExRep X.K F' x cls d H' ∧ E x st') → EX cls d H') :
    SpD X.K m c vs H (fun v H' => ∃ w' st' F' ρ', Post F ρ H F' ρ' H' ∧ Rl X.K n F' ρ' st' σ H' ∧ RepW X.K F' ρ' w' v ∧ Q w' st') EX := by
  have hl : ∀ l ∈ locs ws, l < ρ.length := fun l hl => r.mem (mem_locs hl)
  refine ⟨F, vw ρ (locs ws), vwO st.μ (locs ws), ws.map (ren (locs ws)), _, _, R.ok.view (locs_nd ws) hl, ren_rep hl r fun n z => locs_mem z, by simpa using hm, h.ap, fun w μ' v F' ρ' H' q p ok rw => ?_, fun x μ' cls d F' ρ' H' q p ok rx => ?_⟩
  · obtain ⟨t, e, P, ok2⟩ := view_back R.ok (locs_nd ws) hl p ok
    subst e
    exact ⟨_, _, F', ρ ++ t, P, R.step P ok2, by rw [← R.ok.len]; exact unren_rep hl rw, q⟩
  · obtain ⟨t, e, P, ok2⟩ := view_back R.ok (locs_nd ws) hl p ok
    exact hE cls d H' ⟨_, F', ρ ++ t, x, R.step P ok2, rx, q⟩
theorem pd_call {x : Str} {k m : Nat} {c : DSp} {wa : DA} (D : FnD X.prog X.w X.K X.mg X.base x k m c) (hr : Room k X.A) (hg : Gl X x) (ha : PAD X n (e :: es) wa) (hm : (e :: es).length = m := by rfl) (hdb : (x == ("__debug__" : Str)) = false := by decide)
    (he : starEach (e :: es) X.env = (false, eval e X.env) :: starEach es X.env := by rfl) (hpl : (backTo pos (starEach es X.env)).any (·.1) = false := by rfl) : PD X n (.Call (.Name x p) (e :: es) [] pos) (wCallD (fun ws μ Q E => ws.length = m ∧ c ws μ Q E) wa) := by
  obtain ⟨f, fd, ps, Fn, hmg, hk, hb⟩ := D.ex
  refine ⟨fun pins s σ H F ρ st Q E I R tk hw => ?_⟩
  refine wpAny_Call_Name_kw (ld_glob I hg hmg ?_ hdb)
  refine PySem.W.callWith_K (h₀ := X.base) I.ok.mod.kin hk (thn (ha.run pos pins s σ H F ρ st _ E I R tk hw) fun us s1 ⟨vs, ws, st1, H1, F1, ρ1, I1, r, p1, R1, rw, q⟩ => ⟨I1.kIn, ?_⟩) he hpl
  have q : (ws.map (ren (locs ws))).length = m ∧ _ := q.ap
  refine thn (run_fnS Fn hr hb (passAt tk σ) I1 r (call_sp R1 rw (by simpa using q.1) ⟨q.2⟩ fun cls d H' z => z)) fun u s2 ⟨v, H2, I2, r2, w', st', F', ρ', p2, R2, rw2, q2⟩ => ?_
  exact ⟨v, w', st', H2, F', ρ', I2, r2, p1.trans p2 R1.ok.dom, R2, rw2, q2⟩
theorem pd_call0 {x : Str} {k : Nat} {c : DSp} (D : FnD X.prog X.w X.K X.mg X.base x k 0 c) (hr : Room k X.A) (hg : Gl X x) (hdb : (x == ("__debug__" : Str)) = false := by decide) :
    PD X n (.Call (.Name x p) [] [] pos) (wCallD c wNil) := by
  obtain ⟨f, fd, ps, Fn, hmg, hk, hb⟩ := D.ex
  refine ⟨fun pins s σ H F ρ st Q E I R tk hw => ?_⟩
  refine wpAny_Call_Name_kw (ld_glob I hg hmg ?_ hdb)
  have q : wFn c [] st Q E := hw
  refine PySem.W.callWith_K0 I.kIn hk (thn (run_fnS (us := []) Fn hr hb (passAt tk σ) I .nil (call_sp R (show RepWL X.K F ρ [] [] from rfl) rfl q fun cls d H' z => z)) fun u s2 ⟨v, H2, I2, r2, w', st', F', ρ', p2, R2, rw2, q2⟩ => ?_)
  exact ⟨v, w', st', H2, F', ρ', I2, r2, p2, R2, rw2, q2⟩
end

def startD (N : Nat) (ws : List W) : List (Option W) := ws.map some ++ List.replicate (N - ws.length) none
theorem rl_start {K : PySem.W.Frag} {F : Hp} {ρ : List Addr} {μ : List O} {H : Hp} {N : List Str} {ws : List W} {vs : List V} (s : StOk K F ρ μ H) (r : RepWL K F ρ ws vs) : Rl K ⟨F, ρ, H⟩ F ρ ⟨startD N.length ws, μ⟩ (L2.start N vs) H := by
  have get : ∀ {ws : List W} {vs : List V} {i : Nat} {w : W}, RepWL K F ρ ws vs → ws[i]? = some w → ∃ v, vs[i]? = some v ∧ RepW K F ρ w v := by
    intro ws
    induction ws with
    | nil => intro vs i w h e; simp at e
    | cons x ws ih =>
      intro vs i w h e
      obtain ⟨v, t, rfl, q, h2⟩ := h
      cases i with
      | zero => simp at e; subst e; exact ⟨v, rfl, q⟩
      | succ i =>
        obtain ⟨u, e1, e2⟩ := ih (i := i) h2 (by simpa using e)
        exact ⟨u, by simpa using e1, e2⟩
  refine ⟨s, Post.refl _ _ _, by simp [startD, L2.start, r.len], fun i w e => ?_⟩
  have e : (startD N.length ws)[i]? = some (some w) := e
  unfold startD at e
  by_cases hi : i < ws.length
  · rw [List.getElem?_append_left (by simpa using hi), List.getElem?_map] at e
    cases q : ws[i]? with
    | none => rw [q] at e; cases e
    | some w' =>
      rw [q] at e
      have e : w' = w := by simpa using e
      subst e
      obtain ⟨v, e1, e2⟩ := get r q
      refine ⟨v, ?_, e2⟩
      unfold L2.start
      rw [List.getElem?_append_left (by simpa [← r.len] using hi), List.getElem?_map, e1]
      rfl
  · rw [List.getElem?_append_right (by simpa using hi), List.getElem?_replicate] at e
    split at e <;> cases e
section
variable {P : Program} {w : World} {K : PySem.W.Frag} {mg : Str → Option Value} {base : Heap} {x qual : Str} {params : Arguments} {body : List Stmt} {scope : Scope} {dvs : List V} {kws : List (Str × V)} {f : Addr} {fd : FuncData}
/-- the context of a def's body -/
abbrev cxD (P : Program) (w : World) (K : PySem.W.Frag) (mg : Str → Option Value) (base : Heap) (N : List Str) (qual : Str) (scope : Scope) (f : Addr) (cdv : Value) (A : Around) (outer : List Env) (s : Shared) (H : Hp) (E : XK) : Cx := cxOf (L2.CX P w) P w K mg base N qual scope f cdv A outer s H E
theorem ok_ofD {N ps : List Str} {k m : Nat} {c : DSp} {wb : DS} (F : FunD K x qual params body scope dvs kws f fd) (S : FnScope N ps scope) (hm : m = ps.length)
    (hb : ∀ (cdv : Value) (A : Around) (outer : List Env) (s : Shared) (H : Hp) (E : XK) (n : En), Room k (A.deeper (envOfC qual scope s.heap.objs.size f cdv)) → PSSD (cxD P w K mg base N qual scope f cdv A outer s H E) n body wb)
    (hc : ∀ ws μ Q E, ws.length = m → c ws μ Q E → wb { nx := fun st => Q (.d .non) st.μ, rt := Q, ex := fun x st => E x st.μ } ⟨startD N.length ws, μ⟩) : FnOk P w K mg base (L2.CX P w) (k + 1) f fd ps (SpD K m c) := by
  refine F.ok S (fun vs H Q E ⟨_, _, _, ws, _, _, _, r, hl, _⟩ => by rw [← r.len, hl, hm]) fun cdv A outer s H vs Q E hr h => ?_
  obtain ⟨F0, ρ, μ, ws, QD, ED, ok, r, hl, h, hq, he⟩ := h
  refine ⟨_, (hb cdv A outer s H E ⟨F0, ρ, H⟩ hr).pss, ?_⟩
  have tk : TkD (cxD P w K mg base N qual scope f cdv A outer s H E) ⟨F0, ρ, H⟩ (fun x st => ED x st.μ) :=
    (takes_of (X := cxD P w K mg base N qual scope f cdv A outer s H E) rfl rfl rfl rfl).imp fun cls d σ H' ⟨st', F', ρ', x, R, rx, z⟩ => he x st'.μ cls d F' ρ' H' z R.po R.ok rx
  refine tS.use (DD := { nx := fun st => QD (.d .non) st.μ, rt := QD, ex := fun x st => ED x st.μ }) (rl_start (N := N) ok r) tk (hc ws μ QD ED hl h) (fun σ' H' F' ρ' st' p R z => hq _ _ .non F' ρ' H' z p R.ok rfl) (fun v w' H' F' ρ' μ' p p0 ok' rw z => hq _ _ v F' ρ' H' z p ok' rw)
    (fun _ _ _ _ _ _ _ z => z.elim) (fun _ _ _ _ _ _ _ z => z.elim)
end
end Dl
namespace Dl
open PySem PySem.Spec PyProof.Rows L2
section
variable {K : PySem.W.Frag} {X : Cx} {n : En} {e o a b : Expr} {es : List Expr} {pos p : Pos} {we wo wi : DE}

theorem loc_lst {F H : Hp} {ρ : List Addr} {μ : List O} {j : Nat} {v : V} {xs : List D} (s : StOk K F ρ μ H) (r : RepW K F ρ (.loc j) v) (h : μ[j]? = some (.lst xs)) : ∃ p vs, v = .ref p ∧ ρ[j]? = some p ∧ F p = none ∧ H p = some (.lst vs) ∧ RepL K F xs vs := by
  obtain ⟨p, e, rfl⟩ := r
  obtain ⟨f, vs, h1, h2⟩ := s.obj j p _ e h
  exact ⟨p, vs, rfl, e, f, h1, h2⟩
/-- xs[i] of data, or of a list of the store -/
def wIx (wa wb : DE) : DE := fun st Q E => wa st (fun a st1 => wb st1 (fun b st2 => match a, b with
  | .d x, .d y => oIx x y fun z => Q (.d z) st2
  | .loc j, .d (.int k) => match st2.μ[j]? with
    | some (.lst xs) => match atI xs k with
      | some d => Q (.d d) st2
      | none => False
    | _ => False
  | _, _ => False) E) E
theorem pd_ixW {wa wb : DE} (ha : PD X n a wa) (hb : PD X n b wb) (hs : PlainIx b := by exact fun _ _ => rfl) : PD X n (.Subscript a b pos) (wIx wa wb) :=
  pd_of (pe_ix ix_seq ha.pe hb.pe hs) fun σ H F ρ st Q E R tk hw => by
    refine tE.use R tk hw fun v w1 st1 H1 F1 ρ1 p1 R1 r1 h1 => ?_
    refine tE.use R1 tk h1 fun u w2 st2 H2 F2 ρ2 p2 R2 r2 h2 => ?_
    have p12 := p1.trans p2 R1.ok.dom
    have r1 := r1.post p2
    cases w1 with
    | scr _ => exact h2.elim
    | d x =>
      cases w2 <;> first | exact h2.elim | skip
      rename_i y
      refine ops_ix F2 H2 x y v u _ _ R2.ok.sub r1 r2 h2 fun z H' d F' g rz q => ?_
      obtain ⟨p3, R3⟩ := R2.grow g
      exact ⟨.d d, st2, F', ρ2, p12.trans p3 R2.ok.dom, R3, rz, q⟩
    | loc j =>
      cases w2 <;> first | exact h2.elim | skip
      rename_i y
      cases y <;> first | exact h2.elim | skip
      rename_i k
      obtain rfl := (show u = .int k from r2)
      have h2 : (match st2.μ[j]? with
        | some (.lst xs) => match atI xs k with
          | some d => Q (.d d) st2
          | none => False
        | _ => False) := h2
      split at h2
      · rename_i xs ex
        obtain ⟨q, vs, rfl, e1, f, h3, h4⟩ := loc_lst R2.ok r1 ex
        cases e : atI xs k with
        | none => rw [e] at h2; exact h2.elim
        | some d =>
          rw [e] at h2
          obtain ⟨z, e2, rz⟩ := atI_rep h4 e
          exact .inl ⟨q, vs, k, z, rfl, rfl, .of h3, e2, .d d, st2, F2, ρ2, p12, R2, rz, h2⟩
      · exact h2.elim
/-- the list at a place of the store is written -/
theorem Rl.store {F : Hp} {ρ : List Addr} {st : Dst} {σ : L2.St} {H : Hp} {j : Nat} {p : Addr} {o : O} {u : HO} (R : Rl K n F ρ st σ H) (e : ρ[j]? = some p) (h : OOk K F (upd H p u) p o) (f : F p = none) :
    Post F ρ H F ρ (upd H p u) ∧ Rl K n F ρ { st with μ := st.μ.set j o } σ (upd H p u) := by
  have pm : p ∈ ρ := List.mem_of_getElem? e
  have P : Post F ρ H F ρ (upd H p u) := ⟨SubH.refl F, ⟨[], by simp⟩, fun _ z => .inl z, fun b w hb nb => by rw [upd_ne (fun z : b = p => nb (by rw [z]; exact pm))]; exact hb, fun b z nb => absurd z nb⟩
  refine ⟨P, R.step P ⟨fun b w hb => by rw [upd_ne (ne_of_none hb f)]; exact R.ok.sub b w hb, by simp [R.ok.len], R.ok.nd, fun b hb => ?_, fun i b w e1 e2 => ?_⟩⟩
  · by_cases z : b = p
    · subst z; rw [upd_same]; simp
    · rw [upd_ne z]; exact R.ok.dom b hb
  · by_cases z : j = i
    · subst z
      rw [e] at e1; cases e1
      have hj : j < st.μ.length := by rw [← R.ok.len]; exact (List.getElem?_eq_some_iff.mp e).1
      rw [List.getElem?_set_self hj] at e2
      cases e2
      exact h
    · rw [List.getElem?_set_ne z] at e2
      have nb : b ≠ p := fun y => by
        subst y
        obtain ⟨b1, c1⟩ := List.getElem?_eq_some_iff.mp e
        obtain ⟨b2, c2⟩ := List.getElem?_eq_some_iff.mp e1
        exact z ((List.getElem_inj R.ok.nd).mp (c1.trans c2.symm))
      exact (R.ok.obj i b w e1 e2).mono (SubH.refl F) (fun y => y) fun w hw => by rw [upd_ne nb]; exact hw
theorem RepL.set {F : Hp} {d : D} {v : V} (h : Rep K F d v) : ∀ {ds : List D} {vs : List V} (i : Nat), RepL K F ds vs → RepL K F (ds.set i d) (vs.set i v)
  | [], _, i, r => by unfold RepL at r; subst r; exact RepL.nil
  | x :: ds, _, 0, r => by
    unfold RepL at r
    obtain ⟨u, t, rfl, q, r⟩ := r
    exact RepL.cons h r
  | x :: ds, _, i + 1, r => by
    unfold RepL at r
    obtain ⟨u, t, rfl, q, r⟩ := r
    exact RepL.cons q (RepL.set h i r)
/-- xs[i] = v, of a list of the store -/
def gSub (wo wi : DE) : DG := fun w st Q E => wo st (fun o st1 => wi st1 (fun i st2 => match o, i, w with
  | .loc j, .d (.int k), .d x => match st2.μ[j]? with
    | some (.lst xs) => match ixN xs.length k with
      | some m => Q { st2 with μ := st2.μ.set j (.lst (xs.set m x)) }
      | none => False
    | _ => False
  | _, _, _ => False) E) E
theorem pgd_sub (ho : PD X n o wo) (hi : PD X n e wi) (ha : ∀ v, assign (.Subscript o e pos) X.env v = (do
      let ov ← holding [v] (eval o X.env)
      let iv ← holding [v, ov] (eval e X.env)
      standAt pos
      holding [v, ov, iv] (setItem ov iv v)
      release [v, ov, iv] []) := by intro _; rfl) : PGD X n (.Subscript o e pos) (gSub wo wi) :=
  pgd_of (pg_sub ho.pe hi.pe set_list ha) fun σ H F ρ st w v Q E R tk rw hw => by
    refine tE.use R tk hw fun v1 w1 st1 H1 F1 ρ1 p1 R1 r1 h1 => ?_
    refine tE.use R1 tk h1 fun v2 w2 st2 H2 F2 ρ2 p2 R2 r2 h2 => ?_
    have p12 := p1.trans p2 R1.ok.dom
    have r1 := r1.post p2
    have rw := rw.post p12
    have r2' := r2
    clear r2
    cases w1 with
    | d _ => exact h2.elim
    | scr _ => exact h2.elim
    | loc j =>
    cases w2 with
    | loc _ => exact h2.elim
    | scr _ => exact h2.elim
    | d y =>
    cases y <;> first | exact h2.elim | skip
    rename_i k
    cases w with
    | loc _ => exact h2.elim
    | scr _ => exact h2.elim
    | d x =>
    obtain rfl := (show v2 = .int k from r2')
    have h2 : (match st2.μ[j]? with
      | some (.lst xs) => match ixN xs.length k with
        | some m => Q { st2 with μ := st2.μ.set j (.lst (xs.set m x)) }
        | none => False
      | _ => False) := h2
    split at h2
    · rename_i xs ex
      obtain ⟨q, vs, rfl, e1, f, h3, h4⟩ := loc_lst R2.ok r1 ex
      cases e : ixN xs.length k with
      | none => rw [e] at h2; exact h2.elim
      | some m =>
        rw [e] at h2
        obtain ⟨p3, R3⟩ := R2.store (o := .lst (xs.set m x)) (u := .lst (vs.set m v)) e1 ⟨f, _, upd_same, RepL.set rw m h4⟩ f
        exact ⟨q, vs, k, m, rfl, rfl, h3, by rw [← h4.len]; exact e, F2, ρ2, _, p12.trans p3 R2.ok.dom, R3, h2⟩
    · exact h2.elim
/-- an object of the store becomes data -/
def wFrz (w : DE) : DE := fun st Q E => w st (fun v st1 => match v with
  | .d x => Q (.d x) st1
  | .loc j => match st1.μ[j]? with
    | some (.lst xs) => Q (.d (.lst xs)) { st1 with μ := st1.μ.set j .dead }
    | some (.ins c ks vs) => Q (.d (.ins c ks vs)) { st1 with μ := st1.μ.set j .dead }
    | _ => False
  | .scr _ => False) E
theorem Rl.frz {F : Hp} {ρ : List Addr} {st : Dst} {σ : L2.St} {H : Hp} {j : Nat} {p : Addr} {u : HO} (R : Rl K n F ρ st σ H) (e : ρ[j]? = some p) (f : F p = none) (h : H p = some u) :
    Post F ρ H (upd F p u) ρ H ∧ Rl K n (upd F p u) ρ { st with μ := st.μ.set j .dead } σ H := by
  have pm : p ∈ ρ := List.mem_of_getElem? e
  have sub : SubH F (upd F p u) := fun b w hb => by rw [upd_ne (ne_of_none hb f)]; exact hb
  have P : Post F ρ H (upd F p u) ρ H := ⟨sub, ⟨[], by simp⟩, fun b z => by
    by_cases y : b = p
    · subst y; exact .inr (.inr pm)
    · rw [upd_ne y] at z; exact .inl z, fun b w hb nb => hb, fun b z nb => absurd z nb⟩
  refine ⟨P, R.step P ⟨fun b w hb => ?_, by simp [R.ok.len], R.ok.nd, R.ok.dom, fun i b w e1 e2 => ?_⟩⟩
  · by_cases y : b = p
    · subst y; rw [upd_same] at hb; cases hb; exact h
    · rw [upd_ne y] at hb; exact R.ok.sub b w hb
  · by_cases z : j = i
    · subst z
      have hj : j < st.μ.length := by rw [← R.ok.len]; exact (List.getElem?_eq_some_iff.mp e).1
      rw [List.getElem?_set_self hj] at e2
      cases e2
      trivial
    · rw [List.getElem?_set_ne z] at e2
      have nb : b ≠ p := fun y => by
        subst y
        obtain ⟨b1, c1⟩ := List.getElem?_eq_some_iff.mp e
        obtain ⟨b2, c2⟩ := List.getElem?_eq_some_iff.mp e1
        exact z ((List.getElem_inj R.ok.nd).mp (c1.trans c2.symm))
      exact (R.ok.obj i b w e1 e2).mono sub (fun y => by rw [upd_ne nb]; exact y) fun w hw => hw
theorem pd_frz (h : PD X n e we) : PD X n e (wFrz we) := by
  refine ⟨fun pins s σ H F ρ st Q E I R tk hw => ?_⟩
  refine thn (h.run pins s σ H F ρ st _ E I R tk hw) fun u s1 ⟨v, w1, st1, H1, F1, ρ1, I1, r, p1, R1, r1, h1⟩ => ?_
  cases w1 with
  | d x => exact ⟨v, .d x, st1, H1, F1, ρ1, I1, r, p1, R1, r1, h1⟩
  | scr _ => exact h1.elim
  | loc j =>
    have h1 : (match st1.μ[j]? with
      | some (.lst xs) => Q (.d (.lst xs)) { st1 with μ := st1.μ.set j .dead }
      | some (.ins c ks vs) => Q (.d (.ins c ks vs)) { st1 with μ := st1.μ.set j .dead }
      | _ => False) := h1
    obtain ⟨q, e1, rfl⟩ := r1
    split at h1
    · rename_i xs ex
      obtain ⟨f, vs, h2, h3⟩ := R1.ok.obj j q _ e1 ex
      obtain ⟨p2, R2⟩ := R1.frz e1 f h2
      refine ⟨.ref q, .d (.lst xs), _, H1, _, ρ1, I1, r, p1.trans p2 R1.ok.dom, R2, ?_, h1⟩
      show Rep _ _ (.lst xs) _
      unfold Rep
      exact ⟨q, vs, rfl, upd_same, RepL.sub p2.le _ _ h3⟩
    · rename_i c ks ds ex
      obtain ⟨f, dx, fs, h2, h3, h4⟩ := R1.ok.obj j q _ e1 ex
      obtain ⟨p2, R2⟩ := R1.frz e1 f h2
      refine ⟨.ref q, .d (.ins c ks ds), _, H1, _, ρ1, I1, r, p1.trans p2 R1.ok.dom, R2, ?_, h1⟩
      show Rep _ _ (.ins c ks ds) _
      unfold Rep
      exact ⟨q, dx, fs, rfl, upd_same, h3, RepL.sub p2.le _ _ h4⟩
    · exact h1.elim
/-- a written list, of the store -/
def wLstN (wr : DA) : DE := fun st Q E => wr st (fun ws st1 => match datas ws with
  | some xs => xs.length ≤ 16777216 ∧ Q (.loc st1.μ.length) { st1 with μ := st1.μ ++ [.lst xs] }
  | none => False) E
theorem Rl.newO {F : Hp} {ρ : List Addr} {st : Dst} {σ : L2.St} {H : Hp} {p : Addr} {o : O} {u : HO} (R : Rl K n F ρ st σ H) (hp : H p = none) (h : OOk K F (upd H p u) p o) :
    Post F ρ H F (ρ ++ [p]) (upd H p u) ∧ Rl K n F (ρ ++ [p]) { st with μ := st.μ ++ [o] } σ (upd H p u) := by
  have np : ∀ b, b ∈ ρ → b ≠ p := fun b hb z => R.ok.dom b hb (z ▸ hp)
  have f : F p = none := by
    cases q : F p with
    | none => rfl
    | some w => rw [R.ok.sub p w q] at hp; cases hp
  have P : Post F ρ H F (ρ ++ [p]) (upd H p u) := ⟨SubH.refl F, ⟨[p], rfl⟩, fun _ z => .inl z, fun b w hb nb => by rw [upd_ne (ne_of_none hb hp)]; exact hb, fun b z nb => by
    rcases List.mem_append.mp z with z | z
    · exact absurd z nb
    · obtain rfl := List.mem_singleton.mp z; exact hp⟩
  refine ⟨P, R.step P ⟨fun b w hb => by rw [upd_ne (ne_of_none hb f)]; exact R.ok.sub b w hb, by simp [R.ok.len], ?_, fun b hb => ?_, fun i b w e1 e2 => ?_⟩⟩
  · refine List.nodup_append.mpr ⟨R.ok.nd, by simp, fun b hb c hc z => ?_⟩
    obtain rfl := List.mem_singleton.mp hc
    exact np b hb z
  · rcases List.mem_append.mp hb with z | z
    · rw [upd_ne (np b z)]; exact R.ok.dom b z
    · obtain rfl := List.mem_singleton.mp z; rw [upd_same]; simp
  · by_cases hi : i < ρ.length
    · rw [List.getElem?_append_left hi] at e1
      rw [List.getElem?_append_left (by rw [← R.ok.len]; exact hi)] at e2
      exact (R.ok.obj i b w e1 e2).mono (SubH.refl F) (fun y => y) fun w hw => by rw [upd_ne (np b (List.mem_of_getElem? e1))]; exact hw
    · rw [List.getElem?_append_right (by omega)] at e1
      rw [List.getElem?_append_right (by rw [← R.ok.len]; omega), ← R.ok.len] at e2
      cases hj : i - ρ.length with
      | zero => rw [hj] at e1 e2; cases e1; cases e2; exact h
      | succ j => rw [hj] at e1; simp at e1
theorem pd_lstN {wr : DA} (h : PAD X n es wr) : PD X n (.List es pos) (wLstN wr) :=
  pd_of (pe_lst h.pa) fun σ H F ρ st Q E R tk hw => by
    refine tA.use R tk hw fun vs ws st1 H1 F1 ρ1 p1 R1 r1 h1 => ?_
    cases e : datas ws with
    | none => rw [e] at h1; exact h1.elim
    | some xs =>
      rw [e] at h1
      rw [datas_map e] at r1
      have q := r1.ofD
      refine ⟨by rw [← q.len, sizeLine_eq]; exact h1.1, fun p hp => ?_⟩
      have f : F1 p = none := by
        cases q : F1 p with
        | none => rfl
        | some w => rw [R1.ok.sub p w q] at hp; cases hp
      obtain ⟨p2, R2⟩ := R1.newO (o := .lst xs) (u := .lst vs) hp ⟨f, vs, upd_same, q⟩
      exact ⟨.loc st1.μ.length, _, F1, ρ1 ++ [p], p1.trans p2 R1.ok.dom, R2, ⟨p, by rw [← R1.ok.len]; simp, rfl⟩, h1.2⟩
/-- the script, cut -/
def wSlScr (w : DE) (lo hi : DPo) : DE := fun st Q E => w st (fun v st1 => lo st1 (fun l st2 => hi st2 (fun h st3 => match v with
  | .scr xs => Q (.d (.lst (cutD (xs.map D.int) l h))) st3
  | _ => False) E) E) E
theorem repL_ints {F : Hp} : ∀ xs : List Int, RepL K F (xs.map D.int) (xs.map V.int)
  | [] => RepL.nil
  | x :: xs => RepL.cons rfl (repL_ints xs)
theorem pd_sliceScr {lo hi : Option Expr} {wl wh : DPo} {p2 : Pos} (h : PD X n e we) (hl : POD X n lo wl) (hh : POD X n hi wh) : PD X n (.Subscript e (.Slice lo hi none p2) pos) (wSlScr we wl wh) :=
  pd_of (pe_slice sl_list h.pe hl.po hh.po) fun σ H F ρ st Q E R tk hw => by
    refine tE.use R tk hw fun v w1 st1 H1 F1 ρ1 p1 R1 r1 h1 => ?_
    refine ⟨F1, ρ1, st1, _, E, R1, tk, h1, fun l st2 H2 F2 ρ2 p2 R2 h2 => ?_⟩
    refine ⟨F2, ρ2, st2, _, E, R2, tk, h2, fun u st3 H3 F3 ρ3 p3 R3 h3 => ?_⟩
    cases w1 <;> first | exact h3.elim | skip
    rename_i xs
    obtain ⟨a, rfl, q⟩ := (r1.post p2).post p3
    have p13 := (p1.trans p2 R1.ok.dom).trans p3 R2.ok.dom
    refine ⟨a, xs.map V.int, rfl, SqL.sub R3.ok.sub q, fun p hp => ?_⟩
    have g : Grow F3 H3 (upd F3 p (.lst (cutV (xs.map V.int) l u))) (upd H3 p (.lst (cutV (xs.map V.int) l u))) := .one hp
    obtain ⟨p4, R4⟩ := R3.grow g
    refine ⟨.d (.lst (cutD (xs.map D.int) l u)), st3, _, _, p13.trans p4 R3.ok.dom, R4, ?_, h3⟩
    show Rep _ _ (.lst _) _
    unfold Rep
    exact ⟨p, _, rfl, upd_same, repL_cut (repL_ints xs) l u⟩

abbrev DMt := D → List D → (D → Prop) → Prop
def MtS (K : PySem.W.Frag) (r : V → List V → Hp → VK → Prop) (o : DMt) : Prop := ∀ (F H : Hp) (x : D) (xs : List D) (v : V) (vs : List V) (Q : D → Prop) (k : VK), SubH F H → Rep K F x v → RepL K F xs vs → o x xs Q → (∃ z, x = .str z) ∧ ((∀ z H' d F', Grow F H F' H' → Rep K F' d z → Q d → k z H') → r v vs H k)
def wM0 (o : DMt) (w : DE) : DE := fun st Q E => w st (fun v st1 => match v with
  | .d x => o x [] fun z => Q (.d z) st1
  | _ => False) E
def wM1 (o : DMt) (w wa : DE) : DE := fun st Q E => w st (fun v st1 => match v with
  | .d (.str x) => wa st1 (fun u st2 => match u with
    | .d y => o (.str x) [y] fun z => Q (.d z) st2
    | _ => False) E
  | _ => False) E
theorem pd_m1 {id : String} {name : Str} {apos : Pos} {r : V → List V → Hp → VK → Prop} {o' : DMt} {wa : DE} (slot : Slot "str" name id) (ty : typeOf (.builtin id) = pure (.type "method_descriptor")) (rule : MtR X id r) (S : MtS X.K r o') (ho : PD X n o we) (he : PD X n e wa)
    (hs : starEach [e] X.env = [(false, eval e X.env)] := by rfl) (hbase : attributeBase o name X.env (eval o X.env) = eval o X.env := by rfl) (hline : (apos.endLine == pos.line) = true := by rfl) : PD X n (.Call (.Attribute o name apos) [e] [] pos) (wM1 o' we wa) :=
  pd_of (pe_m1 slot ty rule ho.pe he.pe hs hbase hline) fun σ H F ρ st Q E R tk hw => by
    refine tE.use R tk hw fun v w1 st1 H1 F1 ρ1 p1 R1 r1 h1 => ?_
    cases w1 <;> first | exact h1.elim | skip
    rename_i x
    cases x <;> first | exact h1.elim | skip
    rename_i x
    obtain rfl := (show v = .str (mkS x) from r1)
    refine ⟨⟨_, rfl⟩, ?_⟩
    refine tE.use R1 tk h1 fun u w2 st2 H2 F2 ρ2 p2 R2 r2 h2 => ?_
    cases w2 <;> first | exact h2.elim | skip
    rename_i y
    refine (S F2 H2 (.str x) [y] _ [u] _ _ R2.ok.sub rfl (RepL.one r2) h2).2 fun z H' d F' g rz q => ?_
    obtain ⟨p3, R3⟩ := R2.grow g
    exact ⟨.d d, st2, F', ρ2, (p1.trans p2 R1.ok.dom).trans p3 R2.ok.dom, R3, rz, q⟩
theorem pd_m0 {id : String} {name : Str} {apos : Pos} {r : V → List V → Hp → VK → Prop} {o' : DMt} (slot : Slot "str" name id) (ty : typeOf (.builtin id) = pure (.type "method_descriptor")) (rule : MtR X id r) (S : MtS X.K r o') (ho : PD X n o we)
    (hbase : attributeBase o name X.env (eval o X.env) = eval o X.env := by rfl) (hline : (apos.endLine == pos.line) = true := by rfl) : PD X n (.Call (.Attribute o name apos) [] [] pos) (wM0 o' we) :=
  pd_of (pe_m0 slot ty rule ho.pe hbase hline) fun σ H F ρ st Q E R tk hw => by
    refine tE.use R tk hw fun v w1 st1 H1 F1 ρ1 p1 R1 r1 h1 => ?_
    cases w1 <;> first | exact h1.elim | skip
    rename_i x
    obtain ⟨⟨z, rfl⟩, S⟩ := S F1 H1 x [] v [] _ (fun v H' => ∃ w' st' F' ρ', Post F ρ H F' ρ' H' ∧ Rl X.K n F' ρ' st' σ H' ∧ RepW X.K F' ρ' w' v ∧ Q w' st') R1.ok.sub r1 RepL.nil h1
    obtain rfl := (show v = .str (mkS z) from r1)
    refine ⟨⟨_, rfl⟩, S fun z H' d F' g rz q => ?_⟩
    obtain ⟨p3, R3⟩ := R1.grow g
    exact ⟨.d d, st1, F', ρ1, p1.trans p3 R1.ok.dom, R3, rz, q⟩
/-- the texts of a row -/
def strsD : List D → Option (List (List Nat))
  | [] => some []
  | .str x :: ds => match strsD ds with
    | some r => some (x :: r)
    | none => none
  | _ :: _ => none
theorem strsD_rep {F : Hp} : ∀ {ds : List D} {zs : List (List Nat)} {vs : List V}, strsD ds = some zs → RepL K F ds vs → vs = (zs.map mkS).map V.str
  | [], zs, vs, e, r => by cases e; unfold RepL at r; exact r
  | .str x :: ds, zs, vs, e, r => by
    unfold strsD at e
    cases q : strsD ds with
    | none => rw [q] at e; cases e
    | some ys =>
      rw [q] at e; cases e
      unfold RepL at r
      obtain ⟨v, t, rfl, h1, h2⟩ := r
      obtain rfl := h1
      rw [strsD_rep q h2]; rfl
  | .non :: _, _, _, e, _ => by cases e
  | .bl _ :: _, _, _, e, _ => by cases e
  | .int _ :: _, _, _, e, _ => by cases e
  | .tup _ :: _, _, _, e, _ => by cases e
  | .lst _ :: _, _, _, e, _ => by cases e
  | .dic _ _ :: _, _, _, e, _ => by cases e
  | .ins _ _ _ :: _, _, _, e, _ => by cases e
  | .ty _ :: _, _, _, e, _ => by cases e
  | .cls _ :: _, _, _, e, _ => by cases e
/-- joined lists of signs -/
def joinD (S : List Nat) : List (List Nat) → List Nat
  | [] => []
  | [p] => p
  | p :: q :: r => p ++ (S ++ joinD S (q :: r))
theorem joinD_str (a : List Nat) : ∀ zs : List (List Nat), Str.join (mkS a) (zs.map mkS) = mkS (joinD a zs)
  | [] => rfl
  | [p] => rfl
  | p :: q :: r => by
    show mkS p ++ mkS a ++ Str.join (mkS a) ((q :: r).map mkS) = mkS (p ++ (a ++ joinD a (q :: r)))
    rw [joinD_str a (q :: r), mkS_app, mkS_app, List.append_assoc]
/-- sep.join(row) -/
def oJoin : DMt := fun x xs Q => match x, xs with
  | .str a, [.lst ys] => ∃ zs, strsD ys = some zs ∧ (zs.map (·.length)).sum + zs.length * a.length ≤ 16777216 ∧ Q (.str (joinD a zs))
  | _, _ => False
theorem mts_join : MtS K (fun x xs H Q => ∃ a p, ∃ ys : List Str, x = .str a ∧ xs = [.ref p] ∧ (SqL K H p (ys.map V.str) ∨ SqT K H p (ys.map V.str)) ∧
    (ys.map (·.length)).sum + ys.length * a.length ≤ 16777216 ∧ Q (.str (Txt.join a ys)) H) oJoin := by
  intro F H x xs v vs Q k s rx r h
  unfold oJoin at h
  split at h
  · rename_i a ys
    refine ⟨⟨a, rfl⟩, fun c => ?_⟩
    obtain rfl := rx
    obtain ⟨u, rfl, q⟩ := repL1 r
    unfold Rep at q
    obtain ⟨p, us, rfl, e1, q⟩ := q
    obtain ⟨zs, e2, hz, z⟩ := h
    have e3 := strsD_rep e2 q
    subst e3
    refine ⟨mkS a, p, zs.map mkS, rfl, rfl, .inl (.of (s _ _ e1)), ?_, ?_⟩
    · rw [List.map_map, List.length_map, mkS_len]
      have : ((fun x : Str => x.length) ∘ mkS) = fun z : List Nat => z.length := by funext z; exact mkS_len z
      rw [this]; exact hz
    · rw [TL.join_eq, joinD_str]
      exact c _ H (.str (joinD a zs)) F (.refl _ _) rfl z
  · exact h.elim
theorem pd_join {apos : Pos} {wa : DE} (ho : PD X n o we) (he : PD X n e wa) (hs : starEach [e] X.env = [(false, eval e X.env)] := by rfl) (hbase : attributeBase o "join" X.env (eval o X.env) = eval o X.env := by rfl) (hline : (apos.endLine == pos.line) = true := by rfl) :
    PD X n (.Call (.Attribute o "join" apos) [e] [] pos) (wM1 oJoin we wa) := pd_m1 F.slot_str_join F.type_str_join mt_join mts_join ho he hs hbase hline

/-- one sign in a text -/
def oInS : DOp := fun x y Q => match x, y with
  | .str [c], .str z => Q (.bl (decide (c ∈ z)))
  | _, _ => False
def oNotInS : DOp := fun x y Q => match x, y with
  | .str [c], .str z => Q (.bl (!decide (c ∈ z)))
  | _, _ => False
theorem ops_inS : OpS K (fun x y H Q => ∃ (c : Nat) (z : Str), x = .str ⟨#[c]⟩ ∧ y = .str z ∧ Q (.bl (decide (c ∈ z.cps.toList))) H) oInS := by
  intro F H x y v u Q k s r1 r2 h c
  unfold oInS at h
  split at h
  · obtain rfl := r1
    obtain rfl := r2
    exact ⟨_, _, rfl, rfl, by simpa using c _ H (.bl _) F (.refl _ _) rfl h⟩
  · exact h.elim
theorem ops_notInS : OpS K (fun x y H Q => ∃ (c : Nat) (z : Str), x = .str ⟨#[c]⟩ ∧ y = .str z ∧ Q (.bl (!decide (c ∈ z.cps.toList))) H) oNotInS := by
  intro F H x y v u Q k s r1 r2 h c
  unfold oNotInS at h
  split at h
  · obtain rfl := r1
    obtain rfl := r2
    exact ⟨_, _, rfl, rfl, by simpa using c _ H (.bl _) F (.refl _ _) rfl h⟩
  · exact h.elim
theorem pd_inS {wa wb : DE} (ha : PD X n a wa) (hb : PD X n b wb) (hm : behindInMarks .In b = false := by with_unfolding_all rfl) : PD X n (.Compare a [.In] [b] pos) (wOp oInS wa wb) := pd_cmp op_in_sign ops_inS hm ha hb
theorem pd_notInS {wa wb : DE} (ha : PD X n a wa) (hb : PD X n b wb) (hm : behindInMarks .NotIn b = false := by with_unfolding_all rfl) : PD X n (.Compare a [.NotIn] [b] pos) (wOp oNotInS wa wb) := pd_cmp op_notIn_sign ops_notInS hm ha hb
/-- a flat value in a row of flat ones -/
def flatD : D → Option V
  | .non => some .non
  | .bl b => some (.bl b)
  | .int i => some (.int i)
  | .str x => some (.str (mkS x))
  | _ => none
def flatsD : List D → Option (List V)
  | [] => some []
  | d :: ds => match flatD d, flatsD ds with
    | some v, some vs => some (v :: vs)
    | _, _ => none
theorem flatD_rep {F : Hp} {d : D} {v z : V} (e : flatD d = some z) (r : Rep K F d v) : v = z ∧ flatV z = true := by
  cases d <;> first | (cases e; done) | skip
  all_goals (cases e; obtain rfl := r; exact ⟨rfl, rfl⟩)
theorem flatsD_rep {F : Hp} : ∀ {ds : List D} {zs vs : List V}, flatsD ds = some zs → RepL K F ds vs → vs = zs ∧ zs.all flatV = true
  | [], zs, vs, e, r => by cases e; unfold RepL at r; exact ⟨r, rfl⟩
  | d :: ds, zs, vs, e, r => by
    unfold flatsD at e
    cases h1 : flatD d with
    | none => rw [h1] at e; cases e
    | some z =>
      cases h2 : flatsD ds with
      | none => rw [h1, h2] at e; cases e
      | some t =>
        rw [h1, h2] at e; cases e
        unfold RepL at r
        obtain ⟨v, rr, rfl, q1, q2⟩ := r
        obtain ⟨e1, f1⟩ := flatD_rep h1 q1
        obtain ⟨e2, f2⟩ := flatsD_rep h2 q2
        subst e1 e2
        exact ⟨rfl, by rw [List.all_cons, f1, f2]; rfl⟩
def rowOf : D → Option (List D)
  | .lst xs => some xs
  | .tup xs => some xs
  | _ => none
def oInF (neg : Bool) : DOp := fun x y Q => ∃ z xs vs, rowOf y = some xs ∧ flatD x = some z ∧ flatsD xs = some vs ∧ Q (.bl (if neg then !inV z vs else inV z vs))
theorem ops_inF (neg : Bool) : OpS K (rIn K neg) (oInF neg) := by
  intro F H x y v u Q k s r1 r2 h c
  obtain ⟨z, xs, vs, e0, e1, e2, q⟩ := h
  obtain ⟨rfl, f1⟩ := flatD_rep e1 r1
  have fin := c _ H (.bl _) F (.refl _ _) rfl q
  cases y <;> first | (cases e0; done) | skip
  · cases e0
    unfold Rep at r2
    obtain ⟨p, us, rfl, h1, h2⟩ := r2
    obtain ⟨rfl, f2⟩ := flatsD_rep e2 h2
    exact ⟨p, us, rfl, .inr (h1.sq s), f1, f2, fin⟩
  · cases e0
    unfold Rep at r2
    obtain ⟨p, us, rfl, h1, h2⟩ := r2
    obtain ⟨rfl, f2⟩ := flatsD_rep e2 h2
    exact ⟨p, us, rfl, .inl (.of (s _ _ h1)), f1, f2, fin⟩
theorem pd_inF {wa wb : DE} (ha : PD X n a wa) (hb : PD X n b wb) (hm : behindInMarks .In b = false := by with_unfolding_all rfl) : PD X n (.Compare a [.In] [b] pos) (wOp (oInF false) wa wb) := pd_cmp op_in_seq (ops_inF false) hm ha hb
theorem pd_notInF {wa wb : DE} (ha : PD X n a wa) (hb : PD X n b wb) (hm : behindInMarks .NotIn b = false := by with_unfolding_all rfl) : PD X n (.Compare a [.NotIn] [b] pos) (wOp (oInF true) wa wb) := pd_cmp op_notIn_seq (ops_inF true) hm ha hb
theorem ptd_inF {wa wb : DE} (ha : PD X n a wa) (hb : PD X n b wb) (hm : behindInMarks .In b = false := by with_unfolding_all rfl) : PTD X n (.Compare a [.In] [b] pos) (wTest (wOp (oInF false) wa wb)) := ptd_cmp op_in_seq (ops_inF false) hm ha hb
theorem ptd_inS {wa wb : DE} (ha : PD X n a wa) (hb : PD X n b wb) (hm : behindInMarks .In b = false := by with_unfolding_all rfl) : PTD X n (.Compare a [.In] [b] pos) (wTest (wOp oInS wa wb)) := ptd_cmp op_in_sign ops_inS hm ha hb
theorem ptd_lt {wa wb : DE} (ha : PD X n a wa) (hb : PD X n b wb) : PTD X n (.Compare a [.Lt] [b] pos) (wTest (wOp oLt wa wb)) := ptd_cmp op_lt ops_lt (nomark _) ha hb
theorem ptd_le {wa wb : DE} (ha : PD X n a wa) (hb : PD X n b wb) : PTD X n (.Compare a [.LtE] [b] pos) (wTest (wOp oLe wa wb)) := ptd_cmp op_le ops_le (nomark _) ha hb
theorem ptd_gt {wa wb : DE} (ha : PD X n a wa) (hb : PD X n b wb) : PTD X n (.Compare a [.Gt] [b] pos) (wTest (wOp oGt wa wb)) := ptd_cmp op_gt ops_gt (nomark _) ha hb
theorem ptd_ge {wa wb : DE} (ha : PD X n a wa) (hb : PD X n b wb) : PTD X n (.Compare a [.GtE] [b] pos) (wTest (wOp oGe wa wb)) := ptd_cmp op_ge ops_ge (nomark _) ha hb
theorem ptd_eq {wa wb : DE} {k : Nat} (hr : Room k X.A) (ha : PD X n a wa) (hb : PD X n b wb) : PTD X n (.Compare a [.Eq] [b] pos) (wTest (wOp oEq wa wb)) := ptd_cmp (op_eqD hr.units) ops_eq (nomark _) ha hb
theorem ptd_ne {wa wb : DE} {k : Nat} (hr : Room k X.A) (ha : PD X n a wa) (hb : PD X n b wb) : PTD X n (.Compare a [.NotEq] [b] pos) (wTest (wOp oNe wa wb)) := ptd_cmp (op_neD hr.units) ops_ne (nomark _) ha hb
/-- is None -/
def oIsN : DOp := fun x y Q => match y with
  | .non => Q (.bl (match x with | .non => true | _ => false))
  | _ => False
theorem ops_isN : OpS K (fun x y H Q => y = .non ∧ Q (.bl (decide (x = .non))) H) oIsN := by
  intro F H x y v u Q k s r1 r2 h c
  cases y <;> first | exact (show False from h).elim | skip
  refine ⟨r2, ?_⟩
  cases x with
  | non => obtain rfl := r1; exact c _ H (.bl true) F (.refl _ _) rfl h
  | bl b => obtain rfl := r1; exact c _ H (.bl false) F (.refl _ _) rfl h
  | int b => obtain rfl := r1; exact c _ H (.bl false) F (.refl _ _) rfl h
  | str b => obtain rfl := r1; exact c _ H (.bl false) F (.refl _ _) rfl h
  | tup b => unfold Rep at r1; obtain ⟨_, _, rfl, _⟩ := r1; exact c _ H (.bl false) F (.refl _ _) rfl h
  | lst b => unfold Rep at r1; obtain ⟨_, _, rfl, _⟩ := r1; exact c _ H (.bl false) F (.refl _ _) rfl h
  | dic _ _ => exact r1.elim
  | ins _ _ _ => unfold Rep at r1; obtain ⟨_, _, _, rfl, _⟩ := r1; exact c _ H (.bl false) F (.refl _ _) rfl h
  | ty _ => obtain rfl := r1; exact c _ H (.bl false) F (.refl _ _) rfl h
  | cls _ => obtain rfl := r1; exact c _ H (.bl false) F (.refl _ _) rfl h
theorem pd_isN {wa wb : DE} (ha : PD X n a wa) (hb : PD X n b wb) : PD X n (.Compare a [.Is] [b] pos) (wOp oIsN wa wb) := pd_cmp op_isN ops_isN (nomark _) ha hb
theorem ptd_isN {wa wb : DE} (ha : PD X n a wa) (hb : PD X n b wb) : PTD X n (.Compare a [.Is] [b] pos) (wTest (wOp oIsN wa wb)) := ptd_cmp op_isN ops_isN (nomark _) ha hb
/-- x in y, whatever y is -/
def oIn (neg : Bool) : DOp := fun x y Q => match y with
  | .str z => match x with
    | .str [c] => Q (.bl (if neg then !decide (c ∈ z) else decide (c ∈ z)))
    | _ => False
  | .lst xs => oInF neg x (.lst xs) Q
  | .tup xs => oInF neg x (.tup xs) Q
  | _ => False
theorem oIn_or (x y : D) (Q : D → Prop) (h : oIn false x y Q) : oInS x y Q ∨ oInF false x y Q := by
  cases y <;> first | exact (show False from h).elim | skip
  · rename_i z
    unfold oIn at h
    dsimp only at h
    split at h
    · exact .inl h
    · exact h.elim
  · exact .inr h
  · exact .inr h
theorem oNotIn_or (x y : D) (Q : D → Prop) (h : oIn true x y Q) : oNotInS x y Q ∨ oInF true x y Q := by
  cases y <;> first | exact (show False from h).elim | skip
  · rename_i z
    unfold oIn at h
    dsimp only at h
    split at h
    · exact .inl h
    · exact h.elim
  · exact .inr h
  · exact .inr h
theorem pd_in {wa wb : DE} (ha : PD X n a wa) (hb : PD X n b wb) (hm : behindInMarks .In b = false := by with_unfolding_all rfl) : PD X n (.Compare a [.In] [b] pos) (wOp (oIn false) wa wb) :=
  pd_cmp (op_in_sign.or op_in_seq) ((ops_inS.or (ops_inF false)).imp oIn_or) hm ha hb
theorem pd_notIn {wa wb : DE} (ha : PD X n a wa) (hb : PD X n b wb) (hm : behindInMarks .NotIn b = false := by with_unfolding_all rfl) : PD X n (.Compare a [.NotIn] [b] pos) (wOp (oIn true) wa wb) :=
  pd_cmp (op_notIn_sign.or op_notIn_seq) ((ops_notInS.or (ops_inF true)).imp oNotIn_or) hm ha hb
theorem ptd_in {wa wb : DE} (ha : PD X n a wa) (hb : PD X n b wb) (hm : behindInMarks .In b = false := by with_unfolding_all rfl) : PTD X n (.Compare a [.In] [b] pos) (wTest (wOp (oIn false) wa wb)) :=
  ptd_cmp (op_in_sign.or op_in_seq) ((ops_inS.or (ops_inF false)).imp oIn_or) hm ha hb
theorem ptd_notIn {wa wb : DE} (ha : PD X n a wa) (hb : PD X n b wb) (hm : behindInMarks .NotIn b = false := by with_unfolding_all rfl) : PTD X n (.Compare a [.NotIn] [b] pos) (wTest (wOp (oIn true) wa wb)) :=
  ptd_cmp (op_notIn_sign.or op_notIn_seq) ((ops_notInS.or (ops_inF true)).imp oNotIn_or) hm ha hb
/-- len of data, of a list of the store -/
def wLen (wr : DE) : DE := fun st Q E => wr st (fun v st1 => match v with
  | .d x => oLen [x] fun z => Q (.d z) st1
  | .loc j => match st1.μ[j]? with
    | some (.lst xs) => Q (.d (.int xs.length)) st1
    | _ => False
  | _ => False) E
theorem pd_len {pp : Pos} (hg : Gl X "len") (hm : X.mg "len" = none) (h : PD X n e we) (he : starEach [e] X.env = (false, eval e X.env) :: starEach [] X.env := by rfl) : PD X n (.Call (.Name "len" pp) [e] [] pos) (wLen we) :=
  pd_of (pe_callB call_len2 hg hm PySem.boot_len (pa_cons h.pe pa_nil he) (by decide) (by decide) he rfl) fun σ H F ρ st Q E R tk hw => by
    refine tE.use R tk hw fun v w1 st1 H1 F1 ρ1 p1 R1 r1 h1 => ?_
    cases w1 with
    | scr _ => exact h1.elim
    | d x =>
      refine calls_len F1 H1 [x] [v] _ _ R1.ok.sub (RepL.one r1) h1 fun z H' d F' g rz q => ?_
      obtain ⟨p3, R3⟩ := R1.grow g
      exact ⟨.d d, st1, F', ρ1, p1.trans p3 R1.ok.dom, R3, rz, q⟩
    | loc j =>
      have h1 : (match st1.μ[j]? with
        | some (.lst xs) => Q (.d (.int xs.length)) st1
        | _ => False) := h1
      split at h1
      · rename_i xs ex
        obtain ⟨q, vs, rfl, e1, f, h3, h4⟩ := loc_lst R1.ok r1 ex
        refine .inl ⟨q, vs, rfl, .inl (.of h3), .d (.int xs.length), st1, F1, ρ1, p1, R1, ?_, h1⟩
        rw [← h4.len]; rfl
      · exact h1.elim
/-- list(a text) -/
def oListS : DCall := fun xs Q => match xs with
  | [.str x] => x.length ≤ 16777216 ∧ Q (.lst (x.map fun c => .str [c]))
  | [.lst ys] => Q (.lst ys)
  | [.tup ys] => Q (.lst ys)
  | _ => False
theorem vals_at : ∀ {xs : List V} {us : List Value}, xs.length = us.length → (∀ (j : Nat) x u, xs[j]? = some x → us[j]? = some u → RelV x u) → Vals xs us
  | [], [], _, _ => .nil
  | [], _ :: _, h, _ => by simp at h
  | _ :: _, [], h, _ => by simp at h
  | x :: xs, u :: us, h, k => .cons (k 0 x u rfl rfl) (vals_at (by simpa using h) fun j a b e1 e2 => k (j + 1) a b (by simpa using e1) (by simpa using e2))
theorem repL_signs {F : Hp} : ∀ x : List Nat, RepL K F (x.map fun c => .str [c]) (x.map fun c => V.str ⟨#[c]⟩)
  | [] => RepL.nil
  | y :: x => RepL.cons rfl (repL_signs x)
def rListStr : List V → Hp → VK → Prop := fun xs H Q => ∃ x : Str, xs = [.str x] ∧ x.length ≤ sizeLine ∧ ∀ l, H l = none → Q (.ref l) (upd H l (.lst (x.cps.toList.map fun c => .str ⟨#[c]⟩)))
theorem call_listStr (hc : X.calm = true) : CallR X (.type "list") rListStr := by
  intro pins s σ H xs us Q I r h
  obtain ⟨x, rfl, hz, q⟩ := h
  cases r with
  | cons r rr =>
    cases rr
    obtain ⟨t, rfl⟩ := r
    refine call_list_str (I.ok.hd hc) x t (fun h' tk acc' c' hk ho hit => ?_) hz
    have hv : Vals (x.cps.toList.map fun c => V.str ⟨#[c]⟩) acc'.toList := by
      refine vals_at (by simp [hit.1]) fun j x0 u e1 e2 => ?_
      obtain ⟨c, tk', h1, h2⟩ := hit.2 j u (by simpa using e2)
      rw [List.getElem?_map] at e1
      have h1' : x.cps.toList[j]? = some c := by simpa using h1
      rw [h1'] at e1
      have e1 : V.str ⟨#[c]⟩ = x0 := Option.some.inj e1
      subst e1
      exact ⟨tk', h2⟩
    refine ⟨.ref s.heap.objs.size, upd H s.heap.objs.size (.lst (x.cps.toList.map fun c => .str ⟨#[c]⟩)), I.laid (t' := tk) hk (Nat.le_refl _) ⟨by rw [List.length_map, Array.length_toList]; exact hz, acc'.toList, c', hv, by simpa using ho⟩, rfl, q _ (I.hok.fresh (Nat.le_refl _))⟩
theorem calls_listS : CallS K (fun xs H Q => rListStr xs H Q ∨ ∃ p ys, xs = [.ref p] ∧ (SqL K H p ys ∨ SqT K H p ys) ∧ ∀ l, H l = none → Q (.ref l) (upd H l (.lst ys))) oListS := by
  refine (CallS.or (o := fun xs Q => match xs with
    | [.str x] => x.length ≤ 16777216 ∧ Q (.lst (x.map fun c => .str [c]))
    | _ => False) ?_ calls_listOf).imp fun x Q h => ?_
  · intro F H xs vs Q k s r h c
    split at h
    · rename_i x
      obtain ⟨v, rfl, q⟩ := repL1 r
      obtain rfl := q
      refine ⟨mkS x, rfl, by rw [mkS_len, sizeLine_eq]; exact h.1, fun l hl => ?_⟩
      have g : Grow F H (upd F l (.lst (x.map fun c => .str ⟨#[c]⟩))) (upd H l (.lst (x.map fun c => .str ⟨#[c]⟩))) := .one hl
      refine c _ _ (.lst (x.map fun c => .str [c])) _ g ?_ h.2
      unfold Rep
      exact ⟨l, _, rfl, upd_same, repL_signs x⟩
    · exact h.elim
  · unfold oListS at h
    split at h
    · exact .inl h
    · exact .inr h
    · exact .inr h
    · exact h.elim
theorem pd_list {pp : Pos} {wa : DA} (hc : X.calm = true) (hg : Gl X "list") (hm : X.mg "list" = none) (ha : PAD X n (e :: es) wa) (he : starEach (e :: es) X.env = (false, eval e X.env) :: starEach es X.env := by rfl) (hpl : (backTo pos (starEach es X.env)).any (·.1) = false := by rfl) :
    PD X n (.Call (.Name "list" pp) (e :: es) [] pos) (wCall oListS wa) := pd_callTy (callR_or (call_listStr hc) call_list_of) calls_listS hg hm (by decide +kernel) ha (by decide) (by decide) he hpl
end
end Dl
namespace Dl
open PySem PySem.Spec PyProof.Rows L2

section
variable {X : Cx} {n : En} {a b e o : Expr} {es : List Expr} {pos p : Pos}
theorem pd_gStr {x z : Str} (l : List Nat) (hg : Gl X x) (hm : ∃ t, X.mg x = some (.str z t)) (h : z = mkS l := by decide +kernel) (hd : (x == ("__debug__" : Str)) = false := by decide) : PD X n (.Name x pos) (wC (.str l)) := by
  obtain ⟨t, hm⟩ := hm
  exact pd_glob (v := .str z) hg hm ⟨t, rfl⟩ (fun _ => by subst h; rfl) hd
theorem pd_gInt {x : Str} {i : Int} (hg : Gl X x) (hm : ∃ t, X.mg x = some (.int i t)) (hd : (x == ("__debug__" : Str)) = false := by decide) : PD X n (.Name x pos) (wC (.int i)) := by
  obtain ⟨t, hm⟩ := hm
  exact pd_glob (v := .int i) hg hm ⟨t, rfl⟩ (fun _ => rfl) hd
/-- flat data as the head tells it -/
def dvOf : D → He.Dv
  | .bl b => .bl b
  | .int i => .int i
  | .str x => .str (mkS x)
  | .ty n => .ty n
  | _ => .non
def flatB : D → Bool
  | .non => true
  | .bl _ => true
  | .int _ => true
  | .str _ => true
  | .ty _ => true
  | _ => false
theorem rep_dv {K : PySem.W.Frag} {F : Hp} {d : D} (h : flatB d = true) : Rep K F d ((dvOf d).v K) := by
  cases d <;> first | exact rfl | cases h
theorem repL_dv {K : PySem.W.Frag} {F : Hp} : ∀ {ds : List D}, ds.all flatB = true → RepL K F ds ((ds.map dvOf).map (He.Dv.v K))
  | [], _ => RepL.nil
  | d :: ds, h => by
    rw [List.all_cons, Bool.and_eq_true] at h
    exact RepL.cons (rep_dv h.1) (repL_dv h.2)
theorem rep_tupB {K : PySem.W.Frag} {x : Str} {ds : List D} (h : He.tupB K x (ds.map dvOf) = true) (hf : ds.all flatB = true) (F : Hp) : Rep K F (.tup ds) (.ref (He.ga K x)) := by
  unfold Rep
  refine ⟨_, _, rfl, ?_, repL_dv hf⟩
  rcases He.tupB_ok h (fun _ => none) with (z | ⟨_, z⟩) | z
  · cases z
  · cases z
  · exact .inr z
theorem pd_gTup {x : Str} (ds : List D) (hg : Gl X x) (hm : X.mg x = some (.ref (He.ga X.K x))) (h : He.tupB X.K x (ds.map dvOf) = true) (hf : ds.all flatB = true := by decide +kernel) (hd : (x == ("__debug__" : Str)) = false := by decide) : PD X n (.Name x pos) (wC (.tup ds)) :=
  pd_glob (v := .ref (He.ga X.K x)) hg hm rfl (fun F => rep_tupB h hf F) hd
theorem pd_gTy {x : Str} {T : String} (hg : Gl X x) (hm : X.mg x = none) (hv : bootBuiltins x = some (.type T)) (hn : x ≠ "__name__" := by decide) (hd : (x == ("__debug__" : Str)) = false := by decide) : PD X n (.Name x pos) (wC (.ty T)) :=
  pd_const (pe_bltn (v := .ty T) hg hm hv rfl hn hd) fun _ => rfl
def oMul : DOp := oI (fun i j => .int (i * j)) fun i j => CMul i j ∨ CMulW i j
theorem pd_mul {wa wb : DE} (ha : PD X n a wa) (hb : PD X n b wb) : PD X n (.BinOp a .Mult b pos) (wOp oMul wa wb) :=
  pd_op (op_mul.or op_mulW) (((ops_I (g' := fun i j => .int (i * j)) fun _ _ _ => rfl).or (ops_I (g' := fun i j => .int (i * j)) fun _ _ _ => rfl)).imp fun x y Q h => by
    unfold oMul oI at h
    split at h
    · exact h.1.elim (fun z => .inl ⟨z, h.2⟩) (fun z => .inr ⟨z, h.2⟩)
    · exact h.elim) ha hb
def wNeg (w : DE) : DE := fun st Q E => w st (fun v st1 => match v with
  | .d (.int i) => Q (.d (.int (-i))) st1
  | _ => False) E
theorem pd_neg {wa : DE} (ha : PD X n a wa) : PD X n (.UnaryOp .USub a pos) (wNeg wa) :=
  pd_of (pe_un un_neg ha.pe) fun σ H F ρ st Q E R tk hw => by
    refine tE.use R tk hw fun v w1 st1 H1 F1 ρ1 p1 R1 r1 h1 => ?_
    split at h1
    · rename_i i
      obtain rfl := r1
      exact ⟨_, rfl, .d (.int (-i)), st1, F1, ρ1, p1, R1, rfl, h1⟩
    · exact h1.elim
def truD : D → Option Bool
  | .non => some false
  | .bl b => some b
  | .int i => some (i != 0)
  | .str x => if x.length ≤ 16777216 then some (!x.isEmpty) else none
  | .tup xs => some (!xs.isEmpty)
  | .lst xs => some (!xs.isEmpty)
  | _ => none
def truW (w : W) (μ : List O) : Option Bool := match w with
  | .d x => truD x
  | .loc j => match μ[j]? with
    | some (.lst xs) => some (!xs.isEmpty)
    | _ => none
  | .scr _ => none
def wTru (w : DE) : DT := fun st Q E => w st (fun v st' => match truW v st'.μ with
  | some b => Q b st'
  | none => False) E
theorem RepL.emp {K : PySem.W.Frag} {F : Hp} {ds : List D} {vs : List V} (h : RepL K F ds vs) : ds.isEmpty = vs.isEmpty := by
  have := h.len
  cases ds <;> cases vs <;> simp_all
theorem truD_ok {K : PySem.W.Frag} {F H : Hp} {d : D} {v : V} {k : Bool} (s : SubH F H) (r : Rep K F d v) (e : truD d = some k) : TruV K v H k := by
  cases d <;> first | (cases e; done) | skip
  · cases e; obtain rfl := r; rfl
  · cases e; obtain rfl := r; rfl
  · cases e; obtain rfl := r; rfl
  · rename_i x
    have e : (if x.length ≤ 16777216 then some (!x.isEmpty) else none) = some k := e
    split at e
    · rename_i hz
      cases e
      obtain rfl := r
      refine ⟨by rw [mkS_len, sizeLine_eq]; exact hz, ?_⟩
      rw [mkS_len]
      cases x with
      | nil => rfl
      | cons c x => simp; omega
    · cases e
  · cases e
    unfold Rep at r
    obtain ⟨a, vs, rfl, q1, q2⟩ := r
    exact .inr (.inl ⟨vs, q1.sq s, by rw [q2.emp]⟩)
  · cases e
    unfold Rep at r
    obtain ⟨a, vs, rfl, q1, q2⟩ := r
    exact .inl ⟨vs, .inl (.of (s _ _ q1)), by rw [q2.emp]⟩
theorem ptd_tru {w : DE} (h : PD X n e w) (he : ∀ whole, isTrue e X.env whole = (do let v ← whole; standAt e.pos; holding [v] (truthy v)) := by intro _; rfl) : PTD X n e (wTru w) :=
  ptd_of (pt_truth h.pe he) fun σ H F ρ st Q E R tk hw => by
    refine tE.use R tk hw fun v w1 st1 H1 F1 ρ1 p1 R1 r1 h1 => ?_
    cases w1 with
    | scr _ => exact h1.elim
    | d x =>
      have h1 : (match truD x with | some b => Q b st1 | none => False) := h1
      cases q : truD x with
      | none => rw [q] at h1; exact h1.elim
      | some b => rw [q] at h1; exact ⟨b, truD_ok R1.ok.sub r1 q, st1, F1, ρ1, p1, R1, h1⟩
    | loc j =>
      have h1 : (match (match st1.μ[j]? with
        | some (.lst xs) => some (!xs.isEmpty)
        | _ => none) with | some b => Q b st1 | none => False) := h1
      split at h1
      · rename_i b q
        split at q
        · rename_i xs ex
          cases q
          obtain ⟨p, vs, rfl, e1, f, h3, h4⟩ := loc_lst R1.ok r1 ex
          exact ⟨_, .inl ⟨vs, .inl (.of h3), by rw [h4.emp]⟩, st1, F1, ρ1, p1, R1, h1⟩
        · cases q
      · exact h1.elim
structure FnK (P : Program) (w : World) (K : PySem.W.Frag) (mg : Str → Option Value) (base : Heap) (x : Str) (k m j : Nat) (ks : List Str) (c : DSp) : Prop where
  ex : ∃ f fd ps, FnOk P w K mg base (L2.CX P w) k f fd ps (SpD K m c) ∧ mg x = some (.ref f) ∧ PySem.W.keepIn K (.ref f) = true ∧ ps.length = m ∧ ∀ (s : Shared) (us ws : List Value), us.length = j → us.length + ws.length = m → BindsTo s fd ⟨us, ks.zip ws⟩ (ps.zip (us ++ ws))
structure PKD (X : Cx) (n : En) (kws : List Keyword) (w : DA) : Prop where
  run : ∀ (pos : Pos) (pins : List (Addr × Obj)) (s : Shared) (σ : L2.St) (H F : Hp) (ρ : List Addr) (st : Dst) (Q : List W → Dst → Prop) (E : DX), Inv X pins σ H s → Rl X.K n F ρ st σ H → TkD X n E → w st Q E →
    wpAny (model X.prog X.w) X.A (evalAll ((backToKw pos (keywordEach kws X.env)).map (·.2))) (APD X n pins σ F ρ H Q) X.xe s
theorem pkd_nil : PKD X n [] wNil := ⟨fun _ _ _ σ H F ρ st Q E I R tk hw => wpAny_evalAll_nil ⟨[], [], st, H, F, ρ, I, .nil, Post.refl _ _ _, R, rfl, hw⟩⟩
theorem pkd_cons {nm : Option Str} {kpos : Pos} {kws : List Keyword} {wa : DE} {wr : DA} (ha : PD X n e wa) (hr : PKD X n kws wr) : PKD X n (⟨nm, e, kpos⟩ :: kws) (wCons wa wr) := by
  refine ⟨fun pos pins s σ H F ρ st Q E I R tk hw => ?_⟩
  show wpAny _ _ (evalAll ((do let v ← eval e X.env; standAt pos; pure v) :: (backToKw pos (keywordEach kws X.env)).map (·.2))) _ _ s
  refine wpAny_evalAll_cons (wpAny_bind (thn (ha.run pins s σ H F ρ st _ E I R tk hw) fun u s1 ⟨v, w1, st1, H1, F1, ρ1, I1, r, p1, R1, r1, h1⟩ => wpAny_bind (wpAny_standAt (wpAny_pure ?_))))
  exact thn (hr.run pos pins s1 σ H1 F1 ρ1 st1 _ E I1 R1 tk h1) fun us s2 ⟨vs, ws, st2, H2, F2, ρ2, I2, rv, p2, R2, rw, q⟩ => ⟨v :: vs, w1 :: ws, st2, H2, F2, ρ2, I2, .cons r rv, p1.trans p2 R1.ok.dom, R2, ⟨v, vs, rfl, r1.post p2, rw⟩, q⟩
theorem run_fnKw {k m j : Nat} {ks ps : List Str} {f : Addr} {fd : FuncData} {sp : Sp} {E : L2.St → XK} {pins : List (Addr × Obj)} {σ : L2.St} {H : Hp} {s : Shared} {Q : VK} {us ws : List Value} {vs zs : List V} (F : FnOk X.prog X.w X.K X.mg X.base (L2.CX X.prog X.w) k f fd ps sp) (hr : Room k X.A) (hp : ps.length = m)
    (hb : ∀ (s : Shared) (us ws : List Value), us.length = j → us.length + ws.length = m → BindsTo s fd ⟨us, ks.zip ws⟩ (ps.zip (us ++ ws))) (hj : us.length = j) (hx : PassesAt (L2.CX X.prog X.w) X σ (E σ))
    (I : Inv X pins σ H s) (r : Vals vs us) (rz : Vals zs ws) (h : sp (vs ++ zs) H Q (E σ)) : wpAny (model X.prog X.w) X.A (call (.ref f) us (ks.zip ws)) (EP X pins σ Q) X.xe s := by
  have r2 := r.append rz
  have hl : (us ++ ws).length = ps.length := by rw [← r2.length]; exact F.len _ _ _ _ h
  refine wpAny_call (codeAny_mono (F.run X.A X.stack s H ⟨us, ks.zip ws⟩ (us ++ ws) (vs ++ zs) Q (E σ) hr I.env0 (hb s us ws hj (by rw [← hp, ← hl, List.length_append])) r2 h) fun r s' hq => ?_)
  cases r with
  | error e => exact hx pins H s e s' I hq
  | ok fl =>
    cases fl with
    | ret u => exact I.after hq
    | next => exact False.elim hq
    | brk => exact False.elim hq
    | cont => exact False.elim hq
def wCallK (c : DSp) (m : Nat) (wa wk : DA) : DE := fun st Q E => wa st (fun ws st1 => wk st1 (fun zs st2 => (ws ++ zs).length = m ∧ wFn c (ws ++ zs) st2 Q E) E) E
theorem RepWL.app {K : PySem.W.Frag} {F : Hp} {ρ : List Addr} : ∀ {ws zs : List W} {vs us : List V}, RepWL K F ρ ws vs → RepWL K F ρ zs us → RepWL K F ρ (ws ++ zs) (vs ++ us)
  | [], _, _, _, h, g => by cases h; exact g
  | w :: ws, _, _, _, h, g => by
    obtain ⟨v, r, rfl, q, t⟩ := h
    exact ⟨v, _, rfl, q, t.app g⟩
theorem pd_callK0 {x : Str} {k m : Nat} {c : DSp} {ks : List Str} {kws : List Keyword} {wk : DA} (D : FnK X.prog X.w X.K X.mg X.base x k m 0 ks c) (hr : Room k X.A) (hg : Gl X x) (hkw : PKD X n kws wk)
    (hall : (backToKw pos (keywordEach kws X.env)).all (·.1.isSome) = true := by rfl) (hks : (backToKw pos (keywordEach kws X.env)).filterMap (·.1) = ks := by rfl)
    (hdb : (x == ("__debug__" : Str)) = false := by decide) (hpl : ((backTo pos (starEach [] X.env)).any (·.1) || (backToKw pos (keywordEach kws X.env)).any (·.1.isNone)) = false := by rfl) :
    PD X n (.Call (.Name x p) [] kws pos) (wCallK c m wNil wk) := by
  obtain ⟨f, fd, ps, Fn, hmg, hk, hp, hb⟩ := D.ex
  refine ⟨fun pins s σ H F ρ st Q E I R tk hw => ?_⟩
  refine wpAny_Call_Name_kw (ld_glob I hg hmg ?_ hdb)
  refine PySem.W.callWith_KW0 (h₀ := X.base) I.ok.mod.kin hk hall ?_ hpl
  refine thn (hkw.run pos pins s σ H F ρ st _ E I R tk hw) fun ws s2 ⟨zs, ys, st2, H2, F2, ρ2, I2, rz, p2, R2, rw2, q2⟩ => ⟨I2.kIn, ?_⟩
  rw [hks]
  obtain ⟨l2, q2⟩ := q2
  refine thn (run_fnKw (us := []) (vs := []) Fn hr hp hb rfl (passAt tk σ) I2 .nil rz (call_sp (vs := [] ++ zs) (ws := [] ++ ys) R2 rw2 l2 q2 fun cls d H' z => z)) fun u s3 ⟨v, H3, I3, r3, w', st', F', ρ', p3, R3, rw3, q3⟩ => ?_
  exact ⟨v, w', st', H3, F', ρ', I3, r3, p2.trans p3 R2.ok.dom, R3, rw3, q3⟩
theorem pd_callK {x : Str} {k m j : Nat} {c : DSp} {ks : List Str} {kws : List Keyword} {wa wk : DA} (D : FnK X.prog X.w X.K X.mg X.base x k m j ks c) (hr : Room k X.A) (hg : Gl X x) (ha : PAD X n (e :: es) wa) (hkw : PKD X n kws wk)
    (hall : (backToKw pos (keywordEach kws X.env)).all (·.1.isSome) = true := by rfl) (hks : (backToKw pos (keywordEach kws X.env)).filterMap (·.1) = ks := by rfl)
    (hdb : (x == ("__debug__" : Str)) = false := by decide) (he : starEach (e :: es) X.env = (false, eval e X.env) :: starEach es X.env := by rfl)
    (hpl : ((backTo pos (starEach (e :: es) X.env)).any (·.1) || (backToKw pos (keywordEach kws X.env)).any (·.1.isNone)) = false := by rfl) :
    PD X n (.Call (.Name x p) (e :: es) kws pos) (fun st Q E => wa st (fun ws st1 => wk st1 (fun zs st2 => ws.length = j ∧ (ws ++ zs).length = m ∧ wFn c (ws ++ zs) st2 Q E) E) E) := by
  obtain ⟨f, fd, ps, Fn, hmg, hk, hp, hb⟩ := D.ex
  refine ⟨fun pins s σ H F ρ st Q E I R tk hw => ?_⟩
  refine wpAny_Call_Name_kw (ld_glob I hg hmg ?_ hdb)
  refine PySem.W.callWith_KW (h₀ := X.base) I.ok.mod.kin hk hall (thn (ha.run pos pins s σ H F ρ st _ E I R tk hw) fun us s1 ⟨vs, xs, st1, H1, F1, ρ1, I1, rv, p1, R1, rw1, q1⟩ => ?_) hpl he
  refine thn (hkw.run pos pins s1 σ H1 F1 ρ1 st1 _ E I1 R1 tk q1) fun ws s2 ⟨zs, ys, st2, H2, F2, ρ2, I2, rz, p2, R2, rw2, q2⟩ => ⟨I2.kIn, ?_⟩
  rw [hks]
  obtain ⟨l1, l2, q2⟩ := q2
  refine thn (run_fnKw (us := us) (vs := vs) Fn hr hp hb (by rw [← rv.length, ← rw1.len]; exact l1) (passAt tk σ) I2 rv rz (call_sp (vs := vs ++ zs) (ws := xs ++ ys) R2 ((rw1.post p2).app rw2) l2 q2 fun cls d H' z => z)) fun u s3 ⟨v, H3, I3, r3, w', st', F', ρ', p3, R3, rw3, q3⟩ => ?_
  exact ⟨v, w', st', H3, F', ρ', I3, r3, (p1.trans p2 R1.ok.dom).trans p3 R2.ok.dom, R3, rw3, q3⟩
end
structure Df (K : PySem.W.Frag) (mg : Str → Option Value) (x : Str) (st : Stmt) : Prop where
  ex : ∃ f fd, FunD K x x (defArgs st) (defBody st) (defScope st) [] [] f fd ∧ mg x = some (.ref f)
section
variable {P : Program} {w : World} {K : PySem.W.Frag} {mg : Str → Option Value} {base : Heap} {x : Str} {st : Stmt} {N ps : List Str} {k m : Nat} {c : DSp} {wb : DS}
abbrev BodyD (P : Program) (w : World) (K : PySem.W.Frag) (mg : Str → Option Value) (base : Heap) (x : Str) (st : Stmt) (N : List Str) (k : Nat) (wb : DS) : Prop :=
  ∀ (f : Addr) (cdv : Value) (A : Around) (outer : List Env) (s : Shared) (H : Hp) (E : XK) (n : En), Room k (A.deeper (envOfC x (defScope st) s.heap.objs.size f cdv)) → PSSD (cxD P w K mg base N x (defScope st) f cdv A outer s H E) n (defBody st) wb
theorem fnD_of (D : Df K mg x st) (S : FnScope N ps (defScope st)) (hb : BodyD P w K mg base x st N k wb)
    (hc : ∀ ws μ Q E, ws.length = ps.length → c ws μ Q E → wb { nx := fun st => Q (.d .non) st.μ, rt := Q, ex := fun x st => E x st.μ } ⟨startD N.length ws, μ⟩)
    (bd : ∀ (kV doc pm : Value) (an : Option Addr) (cdv ct : Value) (us : List Value), us.length = ps.length → bindArgs (PySem.W.fnOf x x (defArgs st) (defBody st) (defScope st) .none kV doc pm an cdv ct) ⟨us, []⟩ = pure (ps.zip us)) : FnD P w K mg base x (k + 1) ps.length c := by
  obtain ⟨f, fd, F, hm⟩ := D.ex
  exact ⟨f, fd, ps, ok_ofD F S rfl (fun cdv A outer s H E n hr => hb f cdv A outer s H E n hr) hc, hm, F.kp, F.bindsN bd⟩
theorem fnK_of (j : Nat) (ks : List Str) (D : Df K mg x st) (S : FnScope N ps (defScope st)) (hb : BodyD P w K mg base x st N k wb)
    (hc : ∀ ws μ Q E, ws.length = ps.length → c ws μ Q E → wb { nx := fun st => Q (.d .non) st.μ, rt := Q, ex := fun x st => E x st.μ } ⟨startD N.length ws, μ⟩)
    (bd : ∀ (kV doc pm : Value) (an : Option Addr) (cdv ct : Value) (us ws : List Value), us.length = j → us.length + ws.length = ps.length → bindArgs (PySem.W.fnOf x x (defArgs st) (defBody st) (defScope st) .none kV doc pm an cdv ct) ⟨us, ks.zip ws⟩ = pure (ps.zip (us ++ ws))) : FnK P w K mg base x (k + 1) ps.length j ks c := by
  obtain ⟨f, fd, F, hm⟩ := D.ex
  refine ⟨f, fd, ps, ok_ofD F S rfl (fun cdv A outer s H E n hr => hb f cdv A outer s H E n hr) hc, hm, F.kp, rfl, fun s us ws h1 h2 => ?_⟩
  obtain ⟨oc, od, dV, kV, doc, pm, an, cdv, ct, osl, rfl, lk, hcd, hD, hK⟩ := F.ex
  rcases hD with ⟨_, rfl⟩ | ⟨e, _⟩
  · exact .of_eq (bd kV doc pm an cdv ct us ws h1 h2)
  · exact absurd rfl e
end
end Dl
namespace Dl
open PySem PySem.Spec PyProof.Rows L2 RZ
section
variable {X : Cx} {n : En} {a b e o tg : Expr} {es : List Expr} {pos pp : Pos} {wa : DA}
theorem pd_intI (hg : Gl X "int") (hm : X.mg "int" = none) (ha : PAD X n (e :: es) wa) (he : starEach (e :: es) X.env = (false, eval e X.env) :: starEach es X.env := by rfl) (hpl : (backTo pos (starEach es X.env)).any (·.1) = false := by rfl) :
    PD X n (.Call (.Name "int" pp) (e :: es) [] pos) (wCall oIntI wa) := pd_callTy call_int1 calls_int hg hm (by decide +kernel) ha (by decide) (by decide) he hpl
theorem pd_tupOf (hg : Gl X "tuple") (hm : X.mg "tuple" = none) (ha : PAD X n (e :: es) wa) (he : starEach (e :: es) X.env = (false, eval e X.env) :: starEach es X.env := by rfl) (hpl : (backTo pos (starEach es X.env)).any (·.1) = false := by rfl) :
    PD X n (.Call (.Name "tuple" pp) (e :: es) [] pos) (wCall oTupOf wa) := pd_callTy call_tuple_of calls_tupOf hg hm (by decide +kernel) ha (by decide) (by decide) he hpl
theorem pd_all (hc : X.calm = true) (hg : Gl X "all") (hm : X.mg "all" = none) (ha : PAD X n (e :: es) wa) (he : starEach (e :: es) X.env = (false, eval e X.env) :: starEach es X.env := by rfl) (hpl : (backTo pos (starEach es X.env)).any (·.1) = false := by rfl) :
    PD X n (.Call (.Name "all" pp) (e :: es) [] pos) (wCall oAll wa) := pd_callB (cr_all hc) calls_all hg hm (by decide +kernel) ha (by decide) (by decide) he hpl
theorem pd_any (hc : X.calm = true) (hg : Gl X "any") (hm : X.mg "any" = none) (ha : PAD X n (e :: es) wa) (he : starEach (e :: es) X.env = (false, eval e X.env) :: starEach es X.env := by rfl) (hpl : (backTo pos (starEach es X.env)).any (·.1) = false := by rfl) :
    PD X n (.Call (.Name "any" pp) (e :: es) [] pos) (wCall oAny wa) := pd_callB (cr_any hc) calls_any hg hm (by decide +kernel) ha (by decide) (by decide) he hpl
theorem pd_isi {ans : Ty → Ty → Option Bool} (A : AnsOk X.K ans) (hg : Gl X "isinstance") (hm : X.mg "isinstance" = none) (ha : PAD X n (e :: es) wa) (he : starEach (e :: es) X.env = (false, eval e X.env) :: starEach es X.env := by rfl) (hpl : (backTo pos (starEach es X.env)).any (·.1) = false := by rfl) :
    PD X n (.Call (.Name "isinstance" pp) (e :: es) [] pos) (wCall (oIsi ans) wa) := pd_callB call_isi2 (calls_isi A) hg hm (by decide +kernel) ha (by decide) (by decide) he hpl
def oIsNotN : DOp := fun x y Q => match y with
  | .non => Q (.bl (match x with | .non => false | _ => true))
  | _ => False
theorem ops_isNotN {K : PySem.W.Frag} : OpS K (fun x y H Q => y = .non ∧ Q (.bl (!decide (x = .non))) H) oIsNotN := by
  intro F H x y v u Q k s r1 r2 h c
  cases y <;> first | exact (show False from h).elim | skip
  refine ⟨r2, ?_⟩
  cases x with
  | non => obtain rfl := r1; exact c _ H (.bl false) F (.refl _ _) rfl h
  | bl b => obtain rfl := r1; exact c _ H (.bl true) F (.refl _ _) rfl h
  | int b => obtain rfl := r1; exact c _ H (.bl true) F (.refl _ _) rfl h
  | str b => obtain rfl := r1; exact c _ H (.bl true) F (.refl _ _) rfl h
  | tup b => unfold Rep at r1; obtain ⟨_, _, rfl, _⟩ := r1; exact c _ H (.bl true) F (.refl _ _) rfl h
  | lst b => unfold Rep at r1; obtain ⟨_, _, rfl, _⟩ := r1; exact c _ H (.bl true) F (.refl _ _) rfl h
  | dic _ _ => exact r1.elim
  | ins _ _ _ => unfold Rep at r1; obtain ⟨_, _, _, rfl, _⟩ := r1; exact c _ H (.bl true) F (.refl _ _) rfl h
  | ty _ => obtain rfl := r1; exact c _ H (.bl true) F (.refl _ _) rfl h
  | cls _ => obtain rfl := r1; exact c _ H (.bl true) F (.refl _ _) rfl h
theorem pd_isNotN {wa wb : DE} (ha : PD X n a wa) (hb : PD X n b wb) : PD X n (.Compare a [.IsNot] [b] pos) (wOp oIsNotN wa wb) := pd_cmp op_notN ops_isNotN (nomark _) ha hb
theorem ptd_isNotN {wa wb : DE} (ha : PD X n a wa) (hb : PD X n b wb) : PTD X n (.Compare a [.IsNot] [b] pos) (wTest (wOp oIsNotN wa wb)) := ptd_cmp op_notN ops_isNotN (nomark _) ha hb
def zipD (xs ys : List D) : List D := List.zipWith (fun x y => .tup [x, y]) xs ys
theorem rep_pair {K : PySem.W.Frag} {F H : Hp} {T : Addr} {x y : V} {d e : D} (s : SubH F H) (h : H T = none) (r1 : Rep K F d x) (r2 : Rep K F e y) : Grow F H (upd F T (.tup [x, y])) (upd H T (.tup [x, y])) ∧ Rep K (upd F T (.tup [x, y])) (.tup [d, e]) (.ref T) := by
  have g : Grow F H (upd F T (.tup [x, y])) (upd H T (.tup [x, y])) := .one h
  refine ⟨g, ?_⟩
  unfold Rep
  exact ⟨T, [x, y], rfl, .inl upd_same, RepL.cons (Rep.sub (g.sub s) _ _ r1) (RepL.one (Rep.sub (g.sub s) _ _ r2))⟩
theorem zipD_get {xs ys : List D} {i : Nat} {d e : D} (h1 : xs[i]? = some d) (h2 : ys[i]? = some e) : (zipD xs ys)[i]? = some (.tup [d, e]) := by
  unfold zipD
  rw [List.getElem?_zipWith, h1, h2]
theorem itd_zip {K : PySem.W.Frag} {F0 : Hp} {p q : Addr} {vs us : List V} {xs ys : List D} (h1 : F0 p = some (.lst vs)) (h2 : F0 q = some (.lst us)) (r1 : RepL K F0 xs vs) (r2 : RepL K F0 ys us) : ItD K F0 (Itz K p q) (zipD xs ys) where
  go := fun i F H s1 s2 hi => by
    have hi : i < min xs.length ys.length := by simpa [zipD] using hi
    obtain ⟨v, e, _⟩ := r1.get (i := i) (d := xs[i]'(by omega)) (by simp)
    obtain ⟨u, e', _⟩ := r2.get (i := i) (d := ys[i]'(by omega)) (by simp)
    exact ⟨vs, us, v, u, .inl (.of (s2 _ _ (s1 _ _ h1))), .inl (.of (s2 _ _ (s1 _ _ h2))), e, e'⟩
  yld := fun i F H x H' s1 s2 hi y => by
    obtain ⟨T, v, u, rfl, hT, rfl, y1, y2⟩ := y
    obtain ⟨d, e, q⟩ := r1.getV (y1 vs (.inl (.of (s2 _ _ (s1 _ _ h1)))))
    obtain ⟨d', e', q'⟩ := r2.getV (y2 us (.inl (.of (s2 _ _ (s1 _ _ h2)))))
    obtain ⟨g, r⟩ := rep_pair s2 hT (Rep.sub s1 _ _ q) (Rep.sub s1 _ _ q')
    exact ⟨_, _, zipD_get e e', g, r⟩
  stop := fun i F H s1 s2 hi => ⟨vs, us, .inl (.of (s2 _ _ (s1 _ _ h1))), .inl (.of (s2 _ _ (s1 _ _ h2))), by
    have hi : min xs.length ys.length ≤ i := by simpa [zipD] using hi
    rw [← r1.len, ← r2.len]; omega⟩
theorem itd_zipT {K : PySem.W.Frag} {F0 : Hp} {p q : Addr} {vs us : List V} {xs ys : List D} (h1 : TupAt K F0 p vs) (h2 : TupAt K F0 q us) (r1 : RepL K F0 xs vs) (r2 : RepL K F0 ys us) : ItD K F0 (ItzT K p q) (zipD xs ys) where
  go := fun i F H s1 s2 hi => by
    have hi : i < min xs.length ys.length := by simpa [zipD] using hi
    obtain ⟨v, e, _⟩ := r1.get (i := i) (d := xs[i]'(by omega)) (by simp)
    obtain ⟨u, e', _⟩ := r2.get (i := i) (d := ys[i]'(by omega)) (by simp)
    exact ⟨vs, us, v, u, (h1.sub s1).sq s2, (h2.sub s1).sq s2, e, e'⟩
  yld := fun i F H x H' s1 s2 hi y => by
    obtain ⟨T, v, u, rfl, hT, rfl, y1, y2⟩ := y
    obtain ⟨d, e, q⟩ := r1.getV (y1 vs ((h1.sub s1).sq s2))
    obtain ⟨d', e', q'⟩ := r2.getV (y2 us ((h2.sub s1).sq s2))
    obtain ⟨g, r⟩ := rep_pair s2 hT (Rep.sub s1 _ _ q) (Rep.sub s1 _ _ q')
    exact ⟨_, _, zipD_get e e', g, r⟩
  stop := fun i F H s1 s2 hi => ⟨vs, us, (h1.sub s1).sq s2, (h2.sub s1).sq s2, by
    have hi : min xs.length ys.length ≤ i := by simpa [zipD] using hi
    rw [← r1.len, ← r2.len]; omega⟩
def wZip (wa : DA) : DI := fun st Q E => wa st (fun ws st1 => match ws with
  | [.d (.lst xs), .d (.lst ys)] => Q (zipD xs ys) st1
  | [.d (.tup xs), .d (.tup ys)] => Q (zipD xs ys) st1
  | _ => False) E
theorem pid_zip {elts : List Expr} {kk : Nat} {tpos : Pos} (hg : Gl X "zip") (hm : X.mg "zip" = none) (ha : PAD X n [a, b] wa) (hs : starEach [a, b] X.env = (false, eval a X.env) :: starEach [b] X.env := by rfl) (hpl : (backTo pos (starEach [b] X.env)).any (·.1) = false := by rfl) :
    PID X n (.Tuple elts kk tpos) (.Call (.Name "zip" pp) [a, b] [] pos) (wZip wa) :=
  pid_of (pi_zipA hg hm ha.pa hs hpl) fun σ H F ρ st Q E R tk hw => by
    refine tA.use R tk hw fun vs ws st1 H1 F1 ρ1 p1 R1 r1 h1 => ?_
    split at h1
    · rename_i xs ys
      obtain ⟨v, r, rfl, q1, u, r, rfl, q2, rfl⟩ := r1
      have q1 : Rep X.K F1 (.lst xs) v := q1
      have q2 : Rep X.K F1 (.lst ys) u := q2
      unfold Rep at q1 q2
      obtain ⟨p, vs, rfl, e1, s1⟩ := q1
      obtain ⟨q, us, rfl, e2, s2⟩ := q2
      exact ⟨p, q, vs, us, rfl, .inl ⟨.inl (.of (R1.ok.sub _ _ e1)), .inl (.of (R1.ok.sub _ _ e2)), _, st1, F1, ρ1, p1, R1, itd_zip e1 e2 s1 s2, h1⟩⟩
    · rename_i xs ys
      obtain ⟨v, r, rfl, q1, u, r, rfl, q2, rfl⟩ := r1
      have q1 : Rep X.K F1 (.tup xs) v := q1
      have q2 : Rep X.K F1 (.tup ys) u := q2
      unfold Rep at q1 q2
      obtain ⟨p, vs, rfl, e1, s1⟩ := q1
      obtain ⟨q, us, rfl, e2, s2⟩ := q2
      exact ⟨p, q, vs, us, rfl, .inr ⟨e1.sq R1.ok.sub, e2.sq R1.ok.sub, _, st1, F1, ρ1, p1, R1, itd_zipT e1 e2 s1 s2, h1⟩⟩
    · exact h1.elim
theorem _root_.Dl.PD.imp {w w' : DE} (h : PD X n e w) (i : ∀ st Q E, w' st Q E → w st Q E) : PD X n e w' := ⟨fun pins s σ H F ρ st Q E I R tk hw => h.run pins s σ H F ρ st Q E I R tk (i st Q E hw)⟩
def wCalN (m : Nat) (c : DSp) (wa : DA) : DE := fun st Q E => wa st (fun ws st1 => ws.length = m ∧ wFn c ws st1 Q E) E
def wCallKJ (c : DSp) (j m : Nat) (wa wk : DA) : DE := fun st Q E => wa st (fun ws st1 => wk st1 (fun zs st2 => ws.length = j ∧ (ws ++ zs).length = m ∧ wFn c (ws ++ zs) st2 Q E) E) E
theorem pd_calN {x : Str} {k m : Nat} {c : DSp} {wa : DA} {p : Pos} (D : FnD X.prog X.w X.K X.mg X.base x k m c) (hr : Room k X.A) (hg : Gl X x) (ha : PAD X n (e :: es) wa) (hm : (e :: es).length = m := by rfl) (hdb : (x == ("__debug__" : Str)) = false := by decide)
    (he : starEach (e :: es) X.env = (false, eval e X.env) :: starEach es X.env := by rfl) (hpl : (backTo pos (starEach es X.env)).any (·.1) = false := by rfl) : PD X n (.Call (.Name x p) (e :: es) [] pos) (wCalN m c wa) := by
  obtain ⟨f, fd, ps, Fn, hmg, hk, hb⟩ := D.ex
  refine ⟨fun pins s σ H F ρ st Q E I R tk hw => ?_⟩
  refine wpAny_Call_Name_kw (ld_glob I hg hmg ?_ hdb)
  refine PySem.W.callWith_K (h₀ := X.base) I.ok.mod.kin hk (thn (ha.run pos pins s σ H F ρ st _ E I R tk hw) fun us s1 ⟨vs, ws, st1, H1, F1, ρ1, I1, r, p1, R1, rw, q⟩ => ⟨I1.kIn, ?_⟩) he hpl
  refine thn (run_fnS Fn hr hb (passAt tk σ) I1 r (call_sp R1 rw q.1 q.2 fun cls d H' z => z)) fun u s2 ⟨v, H2, I2, r2, w', st', F', ρ', p2, R2, rw2, q2⟩ => ?_
  exact ⟨v, w', st', H2, F', ρ', I2, r2, p1.trans p2 R1.ok.dom, R2, rw2, q2⟩
end
end Dl
namespace Dl
open PySem PySem.Spec PyProof.Rows L2

theorem wForL_ind {g : DG} {tb : DS} {B : DEnds} (I : List D → Dst → Prop) (end_ : ∀ st, I [] st → B.nx st)
    (step : ∀ x xs st, I (x :: xs) st → ∀ K : Dst → Prop, (∀ st', I xs st' → K st') → g (.d x) st (fun st1 => tb { B with nx := K, ct := K, bk := B.nx } st1) B.ex) : ∀ xs st, I xs st → wForL g tb B xs st
  | [], st, h => end_ st h
  | x :: xs, st, h => step x xs st h _ fun st' h' => wForL_ind I end_ step xs st' h'
theorem wLcL_ind {g : DG} {tt : DT} {te : DE} {δ : List (Option W)} {Q : List D → List O → Prop} (I : List D → List D → List O → Prop) (end_ : ∀ acc μ, I [] acc μ → Q acc μ)
    (step : ∀ x xs acc μ, I (x :: xs) acc μ → ∀ K : List D → List O → Prop, (∀ acc' μ', I xs acc' μ' → K acc' μ') →
      g (.d x) ⟨δ, μ⟩ (fun st2 => tt st2 (fun b st3 => brD b (te st3 (fun y st4 => match y with
      | .d d => acc.length < 16777216 ∧ K (acc ++ [d]) st4.μ
      | _ => False) (fun _ _ => False)) (K acc st3.μ)) (fun _ _ => False)) (fun _ _ => False)) : ∀ xs acc μ, I xs acc μ → wLcL g tt te δ Q xs acc μ
  | [], acc, μ, h => end_ acc μ h
  | x :: xs, acc, μ, h => step x xs acc μ h _ fun acc' μ' h' => wLcL_ind I end_ step xs acc' μ' h'
theorem ixN_lit (n i : Nat) (h : i < n) : ixN n (i : Int) = some i := by
  unfold ixN
  rw [if_pos (by omega), if_pos (by omega)]
  simp
theorem eqI {i j : Int} {Q : D → Prop} (h : Q (.bl (decide (i = j)))) : oEq (.int i) (.int j) Q := ⟨_, _, rfl, rfl, rfl, rfl, h⟩
theorem isi1 (t T : String) (b : Bool) {tbl : List ((Ty × Ty) × Bool)} {x : D} {Q : D → Prop} (ht : tyOf x = some (.ty t)) (h : ansB (.ty t) (.ty T) = some b) (q : Q (.bl b)) : oIsi (ansW tbl) [x, .ty T] Q := by
  exact ⟨_, _, b, ht, rfl, h, q⟩
theorem isi2 (t T U : String) (b c : Bool) {tbl : List ((Ty × Ty) × Bool)} {x : D} {Q : D → Prop} (ht : tyOf x = some (.ty t)) (h : ansB (.ty t) (.ty T) = some b) (h2 : ansB (.ty t) (.ty U) = some c) (q : Q (.bl (b || c))) : oIsi (ansW tbl) [x, .tup [.ty T, .ty U]] Q := by
  refine ⟨.ty t, [.ty T, .ty U], b || (c || false), ht, rfl, List.cons_ne_nil _ _, ?_, by rw [Bool.or_false]; exact q⟩
  have h : ansW tbl (.ty t) (.ty T) = some b := h
  have h2 : ansW tbl (.ty t) (.ty U) = some c := h2
  simp only [List.foldr_cons, List.foldr_nil, h, h2]
theorem neI {i j : Int} {Q : D → Prop} (h : Q (.bl (!decide (i = j)))) : oNe (.int i) (.int j) Q := ⟨_, _, rfl, rfl, rfl, rfl, h⟩
theorem eqB {i j : Bool} {Q : D → Prop} (h : Q (.bl (i == j))) : oEq (.bl i) (.bl j) Q := by
  refine ⟨_, _, rfl, rfl, rfl, rfl, ?_⟩
  cases i <;> cases j <;> exact h
theorem neB {i j : Bool} {Q : D → Prop} (h : Q (.bl (i != j))) : oNe (.bl i) (.bl j) Q := by
  refine ⟨_, _, rfl, rfl, rfl, rfl, ?_⟩
  cases i <;> cases j <;> exact h
theorem oPow_eq (i j : Int) (Q : D → Prop) : oPow (.int i) (.int j) Q ↔ (CPow i j ∧ Q (.int (i ^ j.toNat))) := Iff.rfl
theorem atI_nat {α : Type} {xs : List α} {i : Int} (h0 : 0 ≤ i) (h1 : i < xs.length) : ∃ x, atI xs i = some x ∧ xs[i.toNat]? = some x := by
  have hl : i.toNat < xs.length := by omega
  refine ⟨xs[i.toNat], ?_, by simp [hl]⟩
  unfold atI ixN
  rw [if_pos h0, if_pos h1]
  simp [hl]
theorem atI_map {xs : List Int} {i : Int} (h0 : 0 ≤ i) (h1 : i < xs.length) : ∃ x, atI (xs.map D.int) i = some (.int x) := by
  obtain ⟨x, e, e2⟩ := atI_nat (xs := xs.map D.int) h0 (by simpa using h1)
  rw [List.getElem?_map] at e2
  cases q : xs[i.toNat]? with
  | none => rw [q] at e2; cases e2
  | some y => rw [q] at e2; cases e2; exact ⟨y, e⟩

def BagOk (o : O) : Prop := ∃ (xs : List Int) (i j k l : Int), o = .lst [.lst (xs.map .int), .int i, .int j, .int k, .int l] ∧ 0 ≤ i ∧ 0 ≤ j ∧ 0 ≤ k ∧ k < 2147483629
/-- a def of data alone -/
def spDat (R : List D → (D → Prop) → (Ex → Prop) → Prop) : DSp := fun ws μ Q E => ∃ ds, ws = ds.map .d ∧ R ds (fun d => Q (.d d) μ) (fun x => E x μ)
/-- a def of the bag and data -/
def spBag (R : List D → (D → Prop) → (Ex → Prop) → Prop) : DSp := fun ws μ Q E => ∃ ds b r, ws = .loc 0 :: ds.map .d ∧ μ = b :: r ∧ BagOk b ∧ R ds (fun d => ∀ b', BagOk b' → Q (.d d) (b' :: r)) (fun x => ∀ b', BagOk b' → E x (b' :: r))
theorem locs_d : ∀ ds : List D, locs (ds.map W.d) = []
  | [] => rfl
  | d :: ds => locs_d ds
theorem ren_d (ls : List Nat) : ∀ ds : List D, (ds.map W.d).map (ren ls) = ds.map W.d
  | [] => rfl
  | d :: ds => congrArg (W.d d :: ·) (ren_d ls ds)
theorem wFn_dat {R : List D → (D → Prop) → (Ex → Prop) → Prop} {ws : List W} {st : Dst} {Q : DQ} {E : DX} (ds : List D) (e : ws = ds.map .d) (h : R ds (fun d => Q (.d d) st) (fun x => E x st)) : wFn (spDat R) ws st Q E := by
  subst e
  have e : ({ st with μ := st.μ ++ [] } : Dst) = st := by rw [List.append_nil]
  refine ⟨ds, by rw [locs_d, ren_d], ?_⟩
  rw [locs_d]
  show R ds (fun d => Q (.d d) { st with μ := st.μ ++ [] }) (fun x => E x { st with μ := st.μ ++ [] })
  rw [e]
  exact h
theorem wFn_bag {R : List D → (D → Prop) → (Ex → Prop) → Prop} {ws : List W} {st : Dst} {Q : DQ} {E : DX} (j : Nat) (ds : List D) (b : O) (e : ws = .loc j :: ds.map .d) (hb : st.μ[j]? = some b) (ok : BagOk b)
    (h : R ds (fun d => ∀ b', BagOk b' → Q (.d d) { st with μ := st.μ.set j b' }) (fun x => ∀ b', BagOk b' → E x { st with μ := st.μ.set j b' })) : wFn (spBag R) ws st Q E := by
  subst e
  have e1 : locs (W.loc j :: ds.map W.d) = [j] := by
    show (if j ∈ locs (ds.map W.d) then locs (ds.map W.d) else j :: locs (ds.map W.d)) = [j]
    rw [locs_d]; simp
  have ej : st.μ.getD j .dead = b := by rw [List.getD_eq_getElem?_getD, hb]; rfl
  refine ⟨ds, b, [], ?_, ?_, ok, ?_⟩
  · rw [e1]
    show W.loc ([j].idxOf j) :: _ = _
    rw [ren_d]; simp
  · rw [e1]
    show [st.μ.getD j .dead] = [b]
    rw [ej]
  · rw [e1]
    have e2 : ∀ b', putB st.μ [j] [b'] = st.μ.set j b' := fun b' => by
      show (st.μ ++ []).set j b' = _
      rw [List.append_nil]
    show R ds (fun d => ∀ b', BagOk b' → Q (.d d) { st with μ := putB st.μ [j] [b'] }) (fun x => ∀ b', BagOk b' → E x { st with μ := putB st.μ [j] [b'] })
    simp only [e2]
    exact h
def sp_law_cells : DSp := fun ws μ Q _ => ∃ xs : List Int, ws = [.scr xs] ∧ ∀ b, BagOk b → Q (.loc μ.length) (μ ++ [b])
theorem wFn_cells {ws : List W} {st : Dst} {Q : DQ} {E : DX} (xs : List Int) (e : ws = [.scr xs]) (h : ∀ b, BagOk b → Q (.loc st.μ.length) { st with μ := st.μ ++ [b] }) : wFn sp_law_cells ws st Q E := by
  subst e
  exact ⟨xs, rfl, fun b hb => h b hb⟩
def sp_law_draw : DSp := spBag fun ds Q _ => ∃ k : Int, ds = [.int k] ∧ 0 < k ∧ k < 2 ^ 62 ∧ ∀ d : Int, 0 ≤ d → d < k → Q (.int d)
/-- len(the things) is drawn from -/
def lenD : D → Option Nat
  | .lst xs => some xs.length
  | .tup xs => some xs.length
  | .str x => if x.length ≤ 16777216 then some x.length else none
  | _ => none
def sp_law_any : DSp := spBag fun ds Q _ => ∃ (x : D) (m : Nat), ds = [x] ∧ lenD x = some m ∧ 0 < m ∧ (m : Int) < 2 ^ 62 ∧ ∀ i : Nat, i < m → oIx x (.int i) Q
def wb_law_cells : DS := (wSeq (wAsg (wC (.int 5605)) (gN 1))
  (wSeq (wFor (wIt (wSlScr (wVar 0) wNoPart (wPart (wC (.int 63))))) (gN 2) (wAsg (wOp oMod (wCall oIntI (wCons (wOp oAdd (wOp oAdd (wOp oMul (wVar 1) (wC (.int 48271))) (wOp oMod (wCall oIntI (wCons (wVar 2) wNil)) (wC (.int 2147483543)))) (wC (.int 17))) wNil)) (wC (.int 2147483629))) (gN 1)))
  (wRet (wLstN (wCons (wCall oListS (wCons (wSlScr (wVar 0) wNoPart (wPart (wC (.int 63)))) wNil)) (wCons (wC (.int 0)) (wCons (wC (.int 0)) (wCons (wVar 1) (wCons (wC (.int 0)) wNil)))))))))
def wb_draw2 : DS := (wSeq (wIfS (wTest (wOp oGt (wIx (wVar 0) (wC (.int 2))) (wC (.int 0)))) (wSeq (wAsg (wOp oMod (wCall oIntI (wCons (wIx (wVar 0) (wC (.int 2))) wNil)) (wVar 1)) (gN 3))
  (wSeq (wAsg (wOp oFdiv (wIx (wVar 0) (wC (.int 2))) (wVar 1)) (gSub (wVar 0) (wC (.int 2))))
  (wRet (wVar 3)))) wNext)
  (wSeq (wAsg (wIx (wVar 0) (wC (.int 3))) (gN 4))
  (wSeq (wAsg (wOp oMod (wCall oIntI (wCons (wOp oAdd (wOp oAdd (wOp oAdd (wOp oPow (wVar 4) (wC (.int 3))) (wOp oMul (wVar 4) (wC (.int 40503)))) (wOp oMul (wIx (wVar 0) (wC (.int 4))) (wC (.int 1299721)))) (wC (.int 12345))) wNil)) (wC (.int 2147483629))) (gSub (wVar 0) (wC (.int 3))))
  (wRet (wOp oMod (wCall oIntI (wCons (wOp oAdd (wOp oFdiv (wIx (wVar 0) (wC (.int 3))) (wC (.int 83))) (wOp oMul (wOp oMod (wCall oIntI (wCons (wIx (wVar 0) (wC (.int 3))) wNil)) (wC (.int 7919))) (wC (.int 53)))) wNil)) (wVar 1))))))
def wb_law_draw : DS := (wSeq (wAsg (wOp oAdd (wIx (wVar 0) (wC (.int 4))) (wC (.int 1))) (gSub (wVar 0) (wC (.int 4))))
  (wSeq (wIfS (wAndT (wTest (wOp oEq (wIx (wVar 0) (wC (.int 2))) (wC (.int 0)))) (wTest (wOp oLt (wIx (wVar 0) (wC (.int 1))) (wLen (wIx (wVar 0) (wC (.int 0))))))) (wSeq (wAsg (wIx (wIx (wVar 0) (wC (.int 0))) (wIx (wVar 0) (wC (.int 1)))) (gN 2))
  (wSeq (wAsg (wOp oAdd (wIx (wVar 0) (wC (.int 1))) (wC (.int 1))) (gSub (wVar 0) (wC (.int 1))))
  (wIfS (wTest (wOp oGe (wVar 2) (wOp oPow (wC (.int 10)) (wC (.int 18))))) (wAsg (wVar 2) (gSub (wVar 0) (wC (.int 2)))) (wAsg (wOp oMod (wCall oIntI (wCons (wOp oAdd (wOp oAdd (wOp oMul (wIx (wVar 0) (wC (.int 3))) (wC (.int 39373))) (wOp oMul (wOp oMod (wCall oIntI (wCons (wVar 2) wNil)) (wC (.int 2147483543))) (wC (.int 40692)))) (wC (.int 31))) wNil)) (wC (.int 2147483629))) (gSub (wVar 0) (wC (.int 3))))))) wNext)
  wb_draw2))
def wb_law_any (c : DSp) : DS := (wRet (wIx (wVar 1) (wCalN 2 c (wCons (wVar 0) (wCons (wLen (wVar 1)) wNil)))))
theorem bag_new (xs : List Int) {k : Int} (h0 : 0 ≤ k) (h1 : k < 2147483629) : BagOk (.lst [.lst (xs.map .int), .int 0, .int 0, .int k, .int 0]) := ⟨xs, 0, 0, k, 0, rfl, by omega, by omega, h0, h1⟩
theorem cutD_map (xs : List Int) (lo hi : Option Int) : cutD (xs.map D.int) lo hi = (cutD xs lo hi).map D.int := by
  unfold cutD
  rw [List.length_map, ← List.map_drop, ← List.map_take]
theorem pure_cells (ws : List W) (μ : List O) (Q : W → List O → Prop) (E : Ex → List O → Prop) (h : sp_law_cells ws μ Q E) : wb_law_cells { nx := fun st => Q (.d .non) st.μ, rt := Q, ex := fun x st => E x st.μ } ⟨startD 3 ws, μ⟩ := by
  obtain ⟨xs, rfl, hq⟩ := h
  have key : ∀ (ys : List D) (st : Dst), (∃ zs : List Int, ys = zs.map D.int) ∧ (∃ k u, st = ⟨[some (.scr xs), some (.d (.int k)), u], μ⟩ ∧ 0 ≤ k ∧ k < 2147483629) →
      wForL (gN 2) (wAsg (wOp oMod (wCall oIntI (wCons (wOp oAdd (wOp oAdd (wOp oMul (wVar 1) (wC (.int 48271))) (wOp oMod (wCall oIntI (wCons (wVar 2) wNil)) (wC (.int 2147483543)))) (wC (.int 17))) wNil)) (wC (.int 2147483629))) (gN 1))
        { nx := (wRet (wLstN (wCons (wCall oListS (wCons (wSlScr (wVar 0) wNoPart (wPart (wC (.int 63)))) wNil)) (wCons (wC (.int 0)) (wCons (wC (.int 0)) (wCons (wVar 1) (wCons (wC (.int 0)) wNil))))))) { nx := fun st => Q (.d .non) st.μ, rt := Q, ex := fun x st => E x st.μ }, rt := Q, ex := fun x st => E x st.μ } ys st := by
    refine wForL_ind (fun ys st => (∃ zs : List Int, ys = zs.map D.int) ∧ (∃ k u, st = ⟨[some (.scr xs), some (.d (.int k)), u], μ⟩ ∧ 0 ≤ k ∧ k < 2147483629)) ?_ ?_
    · rintro st ⟨_, k, u, rfl, h0, h1⟩
      refine ⟨by simp, ?_⟩
      show Q (.loc μ.length) (μ ++ [.lst [.lst (cutD (xs.map D.int) none (some 63)), .int 0, .int 0, .int k, .int 0]])
      rw [cutD_map]
      exact hq _ (bag_new _ h0 h1)
    · rintro x ys st ⟨⟨zs, e⟩, k, u, rfl, h0, h1⟩ K hK
      cases zs with
      | nil => cases e
      | cons z zs =>
        cases e
        refine ⟨.inl (.inr ⟨by decide, by decide⟩), (by decide : (0 : Int) < 2147483543), (by decide : (0 : Int) < 2147483629), ?_⟩
        refine hK _ ⟨⟨zs, rfl⟩, _, _, rfl, Int.emod_nonneg _ (by decide), Int.emod_lt_of_pos _ (by decide)⟩
  exact ⟨key _ _ ⟨⟨cutD xs none (some 63), cutD_map _ _ _⟩, 5605, none, rfl, by decide, by decide⟩⟩
/-- the seed's powers -/
theorem pow_small {k : Int} (h0 : 0 ≤ k) (h1 : k < 2147483629) : CPow k 3 := ⟨by decide, by decide, by omega⟩
theorem pure_draw (ws : List W) (μ : List O) (Q : W → List O → Prop) (E : Ex → List O → Prop) (h : sp_law_draw ws μ Q E) : wb_law_draw { nx := fun st => Q (.d .non) st.μ, rt := Q, ex := fun x st => E x st.μ } ⟨startD 5 ws, μ⟩ := by
  obtain ⟨ds, b, r, rfl, rfl, ⟨xs, i, j, k, l, rfl, hi, hj, hk0, hk1⟩, ⟨n, rfl, n0, n1, hq⟩⟩ := h
  -- behind the first if
  have tail : ∀ (i j k l : Int) (u : Option W), 0 ≤ i → 0 ≤ j → 0 ≤ k → k < 2147483629 →
      wb_draw2
        { nx := fun st => Q (.d .non) st.μ, rt := Q, ex := fun x st => E x st.μ } ⟨[some (.loc 0), some (.d (.int n)), u, none, none], .lst [.lst (xs.map .int), .int i, .int j, .int k, .int l] :: r⟩ := by
    intro i j k l u hi hj hk0 hk1
    have d1 : CDivW j n := ⟨n0, by
      have e : n.natAbs < 2 ^ 62 := by omega
      have := PySem.Flt.log2_lt_of (by decide) e
      omega⟩
    have last : ∀ k : Int, ∀ l : Int, 0 ≤ k → k < 2147483629 → (CDivW k 83 ∧ (0 : Int) < 7919 ∧ (CMul (k % 7919) 53 ∨ CMulW (k % 7919) 53) ∧ 0 < n ∧ Q (.d (.int ((k / 83 + k % 7919 * 53) % n))) (.lst [.lst (xs.map .int), .int i, .int j, .int k, .int l] :: r)) := fun k l hk0 hk1 =>
      ⟨⟨by decide, by decide⟩, by decide, .inl (.inr ⟨by decide, by decide⟩), n0, hq _ (Int.emod_nonneg _ (by omega)) (Int.emod_lt_of_pos _ n0) _ ⟨xs, i, j, k, l, rfl, hi, hj, hk0, hk1⟩⟩
    refine br (fun hj0 => ?_) fun hj0 => ?_
    · exact ⟨n0, d1, hq _ (Int.emod_nonneg _ (by omega)) (Int.emod_lt_of_pos _ n0) _ ⟨xs, i, j / n, k, l, rfl, hi, Int.ediv_nonneg hj (by omega), hk0, hk1⟩⟩
    · exact ⟨pow_small hk0 hk1, .inl (.inr ⟨by decide, by decide⟩), .inl (.inr ⟨by decide, by decide⟩), (by decide : (0:Int) < 2147483629), last _ _ (Int.emod_nonneg _ (by decide)) (Int.emod_lt_of_pos _ (by decide))⟩
  refine eqI ?_
  refine br (fun hj0 => ?_) fun hj0 => ?_
  · refine br (fun hi1 => ?_) fun hi1 => ?_
    · have hi1 : i < ((xs.map D.int).length : Int) := of_decide_eq_true hi1
      obtain ⟨c, e⟩ := atI_map hi (by simpa using hi1)
      have go : ∀ (Q : D → Prop), Q (.int c) → (match atI (xs.map D.int) i with
        | some d => Q d
        | none => False) := fun Q h => by rw [e]; exact h
      refine go (fun d => _) ?_
      refine ⟨⟨by decide, by decide, by decide⟩, ?_⟩
      refine br (fun hc => ?_) fun hc => ?_
      · exact tail (i + 1) c k (l + 1) _ (by omega) (Int.le_trans (by decide) (of_decide_eq_true hc)) hk0 hk1
      · refine ⟨.inl (.inr ⟨by decide, by decide⟩), (by decide : (0 : Int) < 2147483543), .inl (.inr ⟨by decide, by decide⟩), (by decide : (0 : Int) < 2147483629), ?_⟩
        exact tail (i + 1) j _ (l + 1) _ (by omega) hj (Int.emod_nonneg _ (by decide)) (Int.emod_lt_of_pos _ (by decide))
    · exact tail i j k (l + 1) _ hi hj hk0 hk1
  · exact brF rfl (tail i j k (l + 1) _ hi hj hk0 hk1)
theorem ix_nat {α : Type} {xs : List α} {i : Nat} (h : i < xs.length) : atI xs (i : Int) = some xs[i] := by
  obtain ⟨x, e, e2⟩ := atI_nat (xs := xs) (i := (i : Int)) (by omega) (by omega)
  rw [e, ← e2]
  simp [h]
theorem lenD_wLen {x : D} {m : Nat} (h : lenD x = some m) {Q : D → Prop} (q : Q (.int m)) : oLen [x] Q := by
  cases x <;> first | (cases h; done) | skip
  · rename_i x
    have h : (if x.length ≤ 16777216 then some x.length else none) = some m := h
    split at h
    · rename_i hz; cases h; exact ⟨hz, q⟩
    · cases h
  · cases h; exact q
  · cases h; exact q
theorem ix_post {x : D} {m i : Nat} {Q : D → Prop} (hq : ∀ i : Nat, i < m → oIx x (.int i) Q) (h : i < m) : oIx x (.int i) Q := hq i h
theorem oIx_imp {x y : D} {Q R : D → Prop} (h : oIx x y Q) (i : ∀ z, Q z → R z) : oIx x y R := by
  unfold oIx at h ⊢
  split at h
  · split at h
    · exact i _ h
    · exact h
  · split at h
    · exact i _ h
    · exact h
  · refine ⟨h.1, ?_⟩
    have h := h.2
    split at h
    · exact i _ h
    · exact h
  · exact h
theorem pure_any (ws : List W) (μ : List O) (Q : W → List O → Prop) (E : Ex → List O → Prop) (h : sp_law_any ws μ Q E) : wb_law_any sp_law_draw { nx := fun st => Q (.d .non) st.μ, rt := Q, ex := fun x st => E x st.μ } ⟨startD 2 ws, μ⟩ := by
  obtain ⟨ds, b, r, rfl, rfl, ok, ⟨x, m, rfl, hl, m0, m1, hq⟩⟩ := h
  have key : ∀ k : Nat, k = m → ∀ (Q' : DQ) (E' : DX), (∀ (i : Nat) (b' : O), i < m → BagOk b' → Q' (.d (.int i)) ⟨startD 2 [.loc 0, .d x], b' :: r⟩) → wFn sp_law_draw [.loc 0, .d (.int k)] ⟨startD 2 [.loc 0, .d x], b :: r⟩ Q' E' := by
    rintro k rfl Q' E' hk
    refine wFn_bag 0 [.int k] b rfl rfl ok ⟨k, rfl, by omega, m1, fun d d0 d1 b' ok' => ?_⟩
    obtain ⟨i, rfl⟩ := Int.eq_ofNat_of_zero_le d0
    exact hk i b' (by omega) ok'
  cases x <;> first | (cases hl; done) | skip
  · rename_i x
    have hl : (if x.length ≤ 16777216 then some x.length else none) = some m := hl
    split at hl
    · rename_i hz
      cases hl
      exact ⟨hz, rfl, key _ rfl _ _ fun i b' hi ok' => oIx_imp (hq i hi) fun z h => h b' ok'⟩
    · cases hl
  · cases hl; exact ⟨rfl, key _ rfl _ _ fun i b' hi ok' => oIx_imp (hq i hi) fun z h => h b' ok'⟩
  · cases hl; exact ⟨rfl, key _ rfl _ _ fun i b' hi ok' => oIx_imp (hq i hi) fun z h => h b' ok'⟩
end Dl
namespace Dl
open PySem PySem.Spec PyProof.Rows L2
theorem law_sp {K : PySem.W.Frag} {c : DSp} (hc : ∀ xs : List Int, xs.length ≤ 63 → c [.scr xs] [] (fun w _ => w = .d (.bl true)) (fun _ _ => False)) (H : Hp) (a : Addr) (ns : List Int) (hl : ns.length ≤ 63) (h : SqL K H a (ns.map V.int)) :
    SpD K 1 c [.ref a] H (fun v _ => v = .bl true) (fun _ _ _ => False) := by
  refine ⟨H, [], [], [.scr ns], _, _, ⟨SubH.refl H, rfl, List.nodup_nil, fun _ z => (by cases z), fun i _ _ z _ => (by simp at z)⟩, ⟨_, _, rfl, ⟨a, rfl, h⟩, rfl⟩, rfl, hc ns hl, fun w μ v F ρ H' e _ _ r => ?_, fun x μ cls d F ρ H' z => z.elim⟩
  subst e
  exact r
theorem lawAt_of {l : PySem.W.OpenLaw} {w : World} {K : PySem.W.Frag} {mg : Str → Option Value} {x y : Str} {st : Stmt} {N : List Str} {k : Nat} {c : DSp} {wb : DS} {fa : Addr} {h : Heap} (D : Df K mg x st) (S : FnScope N [y] (defScope st)) (hfa : mg x = some (.ref fa))
    (hb : ∀ base : Heap, K.In base → base.Ns mainGlobals mg → BodyD l.prog w K mg base x st N k wb)
    (hw : ∀ ws μ Q E, ws.length = 1 → c ws μ Q E → wb { nx := fun st => Q (.d .non) st.μ, rt := Q, ex := fun x st => E x st.μ } ⟨startD N.length ws, μ⟩)
    (hc : ∀ xs : List Int, xs.length ≤ 63 → c [.scr xs] [] (fun w _ => w = .d (.bl true)) (fun _ _ => False))
    (bd : ∀ (kV doc pm : Value) (an : Option Addr) (cdv ct : Value) (us : List Value), us.length = 1 → bindArgs (PySem.W.fnOf x x (defArgs st) (defBody st) (defScope st) .none kV doc pm an cdv ct) ⟨us, []⟩ = pure ([y].zip us)) :
    LamX.LawAtS l w K (L2.CX l.prog w) (k + 1) 63 y mg fa h := by
  obtain ⟨f, fd, F, hm⟩ := D.ex
  have e := hm.symm.trans hfa
  cases e
  refine ⟨fd, [], SpD K 1 c, fun p z => (by cases z), fun p z => (by cases z), fun p z => (by cases z), fun s v => F.bindsA (ps := [y]) bd s [v] rfl, fun H a ns hl _ _ hS => law_sp hc H a ns hl hS, fun base hK hN _ => ?_⟩
  exact ok_ofD F S rfl (fun cdv A outer s H E n hr => hb base hK hN _ cdv A outer s H E n hr) hw
theorem cx_no (P : Program) (w : World) (H : Hp) (s : Shared) (e : Value) (s' : Shared) (h : L2.CX P w [] H s (fun _ _ _ => False) e s') : False := by
  obtain ⟨_, _, _, _, _, _, _, _, _, _, _, _, z⟩ := h
  exact z
section
variable {K : PySem.W.Frag} {mg : Str → Option Value} {h : Heap} {fa : List He.Fa} {fn : List He.DefD}
theorem df_of (X : K.In h) (G : h.Ns mainGlobals mg) (c : He.SaysD fa fn K) {i j : Nat} {x : Str} {st : Stmt} (e1 : fn[i]? = some ⟨(x, none), x, x, defArgs st, defBody st, defScope st, [], []⟩) (e2 : fa[j]? = some (.glo x)) : Df K mg x st := by
  obtain ⟨fd, F⟩ := c.def_ i e1
  exact ⟨_, fd, F, He.glo_ok X G (c.fact j e2)⟩
theorem ex_at {bs : List Bool} (h : bs.all id = true) (i : Nat) {b : Bool} (e : bs[i]? = some b) : b = true := List.all_eq_true.mp h b (List.mem_of_getElem? e)
end
end Dl
namespace Dl
open PySem PySem.Spec PyProof.Rows L2
mutual
def plainD : Nat → D → Bool
  | 0, _ => false
  | _ + 1, .non => true
  | _ + 1, .bl _ => true
  | _ + 1, .int _ => true
  | _ + 1, .str x => x.all fun c => decide (c < 1114112)
  | n + 1, .tup xs => decide (xs.length ≤ 16777216) && plainL n xs
  | n + 1, .lst xs => decide (xs.length ≤ 16777216) && plainL n xs
  | _ + 1, _ => false
def plainL : Nat → List D → Bool
  | _, [] => true
  | n, d :: ds => plainD n d && plainL n ds
end
def sp_like (n : Nat) : DSp := spDat fun ds Q _ => ∃ d, ds = [d, d] ∧ plainD n d = true ∧ Q (.bl true)
def wb_law_like (an : Ty → Ty → Option Bool) (c : DSp) : DS := (wSeq (wIfS (wTest (wCall (oIsi an) (wCons (wVar 1) (wCons (wTup (wCons (wC (.ty "list")) (wCons (wC (.ty "tuple")) wNil))) wNil)))) (wSeq (wIfS (wOrT (wTest (wOp oNe (wCall (oIsi an) (wCons (wVar 0) (wCons (wC (.ty "list")) wNil))) (wCall (oIsi an) (wCons (wVar 1) (wCons (wC (.ty "list")) wNil))))) (wTest (wOp oNe (wCall (oIsi an) (wCons (wVar 0) (wCons (wC (.ty "tuple")) wNil))) (wCall (oIsi an) (wCons (wVar 1) (wCons (wC (.ty "tuple")) wNil)))))) (wRet (wC (.bl false))) wNext)
  (wRet (wAndV (wOp oEq (wLen (wVar 0)) (wLen (wVar 1))) (wCall oAll (wCons (wLc (wZip (wCons (wVar 0) (wCons (wVar 1) wNil))) (gT 2 (gsCons (gN 2) (gsCons (gN 3) gsNil))) wYes (wCalN 2 c (wCons (wVar 2) (wCons (wVar 3) wNil))) [2, 3]) wNil))))) wNext)
  (wSeq (wIfS (wOrT (wTest (wOp oIsN (wVar 1) (wC .non))) (wTest (wOp oIsN (wVar 0) (wC .non)))) (wRet (wAndV (wOp oIsN (wVar 1) (wC .non)) (wOp oIsN (wVar 0) (wC .non)))) wNext)
  (wSeq (wIfS (wOrT (wTest (wOp oNe (wCall (oIsi an) (wCons (wVar 1) (wCons (wC (.ty "bool")) wNil))) (wCall (oIsi an) (wCons (wVar 0) (wCons (wC (.ty "bool")) wNil))))) (wTest (wOp oNe (wCall (oIsi an) (wCons (wVar 1) (wCons (wC (.ty "int")) wNil))) (wCall (oIsi an) (wCons (wVar 0) (wCons (wC (.ty "int")) wNil)))))) (wRet (wC (.bl false))) wNext)
  (wRet (wAndV (wOp oEq (wCall (oIsi an) (wCons (wVar 1) (wCons (wC (.ty "str")) wNil))) (wCall (oIsi an) (wCons (wVar 0) (wCons (wC (.ty "str")) wNil)))) (wOp oEq (wVar 0) (wVar 1)))))))
theorem bools_true (k : Nat) : bools (List.replicate k (.bl true)) = some (List.replicate k true) := by
  induction k with
  | zero => rfl
  | succ k ih =>
    rw [List.replicate_succ, List.replicate_succ]
    unfold bools
    rw [ih]
theorem all_true (k : Nat) : (List.replicate k true).all id = true := by
  rw [List.all_eq_true]
  intro x hx
  rw [List.eq_of_mem_replicate hx]; rfl
/-- the items of both, each like itself -/
theorem like_rows {n : Nat} {δ : List (Option W)} (hl : ∃ a b, δ = [a, b, none, none]) {Q : List D → List O → Prop} {μ : List O} : ∀ (xs : List D) (j : Nat), plainL n xs = true → j + xs.length ≤ 16777216 → Q (List.replicate (j + xs.length) (.bl true)) μ →
    wLcL (gT 2 (gsCons (gN 2) (gsCons (gN 3) gsNil))) wYes (wCalN 2 (sp_like n) (wCons (wVar 2) (wCons (wVar 3) wNil))) δ Q (zipD xs xs) (List.replicate j (.bl true)) μ
  | [], j, _, _, h => h
  | x :: xs, j, hp, hz, h => by
    obtain ⟨a, b, rfl⟩ := hl
    unfold plainL at hp
    rw [Bool.and_eq_true] at hp
    refine ⟨rfl, ?_⟩
    refine brT rfl ?_
    refine ⟨rfl, ?_⟩
    refine wFn_dat [x, x] rfl ⟨x, rfl, hp.1, ?_⟩
    refine ⟨by rw [List.length_replicate]; simp at hz; omega, ?_⟩
    rw [← List.replicate_succ']
    refine like_rows ⟨a, b, rfl⟩ xs (j + 1) hp.2 (by simp at hz; omega) ?_
    rw [Nat.add_assoc, Nat.add_comm 1, ← List.length_cons (a := x)]
    exact h
theorem eqS {x : List Nat} {Q : D → Prop} (hx : (x.all fun c => decide (c < 1114112)) = true) (h : Q (.bl true)) : oEq (.str x) (.str x) Q := by
  have h1 : SeqAt.shaped (.str (mkS x)) = true := by
    unfold SeqAt.shaped PyData.canLay0
    rw [Bool.and_eq_true]
    exact ⟨by unfold PyData.strOk; simpa [mkS] using hx, by unfold PyData.depth; decide⟩
  refine ⟨_, _, rfl, rfl, h1, h1, ?_⟩
  have e : PyData.eqv (.str (mkS x)) (.str (mkS x)) = true := by unfold PyData.eqv; simp
  rw [e]; exact h
theorem pure_like (tbl : List ((Ty × Ty) × Bool)) (n : Nat) (ws : List W) (μ : List O) (Q : W → List O → Prop) (E : Ex → List O → Prop) (h : sp_like (n + 1) ws μ Q E) : wb_law_like (ansW tbl) (sp_like n) { nx := fun st => Q (.d .non) st.μ, rt := Q, ex := fun x st => E x st.μ } ⟨startD 4 ws, μ⟩ := by
  obtain ⟨ds, rfl, d, rfl, hp, hq⟩ := h
  have mem : ∀ {xs : List D} {R : D → Prop} (μ' : List O) (Q : List D → List O → Prop), plainL n xs = true → xs.length ≤ 16777216 → Q (List.replicate xs.length (.bl true)) μ → ∀ a b, wLcL (gT 2 (gsCons (gN 2) (gsCons (gN 3) gsNil))) wYes (wCalN 2 (sp_like n) (wCons (wVar 2) (wCons (wVar 3) wNil))) [a, b, none, none] Q (zipD xs xs) [] μ := fun {xs} {R} μ' Q h1 h2 h3 a b =>
    like_rows ⟨a, b, rfl⟩ xs 0 h1 (by omega) (by rw [Nat.zero_add]; exact h3)
  cases d with
  | non =>
    refine ⟨by decide, isi2 "NoneType" "list" "tuple" false false rfl (by decide +kernel) (by decide +kernel) ?_⟩
    refine brF rfl ?_
    refine brT rfl (brT rfl (brT rfl ?_))
    exact hq
  | bl b =>
    refine ⟨by decide, isi2 "bool" "list" "tuple" false false rfl (by decide +kernel) (by decide +kernel) ?_⟩
    refine brF rfl (brF rfl (brF rfl ?_))
    refine isi1 "bool" "bool" true rfl (by decide +kernel) ?_
    refine isi1 "bool" "bool" true rfl (by decide +kernel) ?_
    refine neB (brF rfl ?_)
    refine isi1 "bool" "int" true rfl (by decide +kernel) ?_
    refine isi1 "bool" "int" true rfl (by decide +kernel) ?_
    refine neB (brF rfl ?_)
    refine isi1 "bool" "str" false rfl (by decide +kernel) ?_
    refine isi1 "bool" "str" false rfl (by decide +kernel) ?_
    refine eqB (brT rfl ?_)
    refine eqB ?_
    cases b <;> exact hq
  | int i =>
    refine ⟨by decide, isi2 "int" "list" "tuple" false false rfl (by decide +kernel) (by decide +kernel) ?_⟩
    refine brF rfl (brF rfl (brF rfl ?_))
    refine isi1 "int" "bool" false rfl (by decide +kernel) ?_
    refine isi1 "int" "bool" false rfl (by decide +kernel) ?_
    refine neB (brF rfl ?_)
    refine isi1 "int" "int" true rfl (by decide +kernel) ?_
    refine isi1 "int" "int" true rfl (by decide +kernel) ?_
    refine neB (brF rfl ?_)
    refine isi1 "int" "str" false rfl (by decide +kernel) ?_
    refine isi1 "int" "str" false rfl (by decide +kernel) ?_
    refine eqB (brT rfl ?_)
    refine eqI ?_
    rw [decide_eq_true rfl]
    exact hq
  | str x =>
    refine ⟨by decide, isi2 "str" "list" "tuple" false false rfl (by decide +kernel) (by decide +kernel) ?_⟩
    refine brF rfl (brF rfl (brF rfl ?_))
    refine isi1 "str" "bool" false rfl (by decide +kernel) ?_
    refine isi1 "str" "bool" false rfl (by decide +kernel) ?_
    refine neB (brF rfl ?_)
    refine isi1 "str" "int" false rfl (by decide +kernel) ?_
    refine isi1 "str" "int" false rfl (by decide +kernel) ?_
    refine neB (brF rfl ?_)
    refine isi1 "str" "str" true rfl (by decide +kernel) ?_
    refine isi1 "str" "str" true rfl (by decide +kernel) ?_
    refine eqB (brT rfl ?_)
    exact eqS (by unfold plainD at hp; exact hp) hq
  | lst xs =>
    unfold plainD at hp
    rw [Bool.and_eq_true] at hp
    have hz := of_decide_eq_true hp.1
    refine ⟨by decide, isi2 "list" "list" "tuple" true false rfl (by decide +kernel) (by decide +kernel) ?_⟩
    refine brT rfl ?_
    refine isi1 "list" "list" true rfl (by decide +kernel) ?_
    refine isi1 "list" "list" true rfl (by decide +kernel) ?_
    refine neB (brF rfl ?_)
    refine isi1 "list" "tuple" false rfl (by decide +kernel) ?_
    refine isi1 "list" "tuple" false rfl (by decide +kernel) ?_
    refine neB (brF rfl ?_)
    refine eqI ?_
    refine brT (decide_eq_true rfl) ?_
    refine ⟨mem (R := fun _ => True) μ _ hp.2 hz ?_ _ _⟩
    refine ⟨_, bools_true _, ?_⟩
    rw [all_true]
    exact hq
  | tup xs =>
    unfold plainD at hp
    rw [Bool.and_eq_true] at hp
    have hz := of_decide_eq_true hp.1
    refine ⟨by decide, isi2 "tuple" "list" "tuple" false true rfl (by decide +kernel) (by decide +kernel) ?_⟩
    refine brT rfl ?_
    refine isi1 "tuple" "list" false rfl (by decide +kernel) ?_
    refine isi1 "tuple" "list" false rfl (by decide +kernel) ?_
    refine neB (brF rfl ?_)
    refine isi1 "tuple" "tuple" true rfl (by decide +kernel) ?_
    refine isi1 "tuple" "tuple" true rfl (by decide +kernel) ?_
    refine neB (brF rfl ?_)
    refine eqI ?_
    refine brT (decide_eq_true rfl) ?_
    refine ⟨mem (R := fun _ => True) μ _ hp.2 hz ?_ _ _⟩
    refine ⟨_, bools_true _, ?_⟩
    rw [all_true]
    exact hq
  | dic _ _ => unfold plainD at hp; cases hp
  | ins _ _ _ => unfold plainD at hp; cases hp
  | ty _ => unfold plainD at hp; cases hp
  | cls _ => unfold plainD at hp; cases hp
/-- no promise at all -/
def spNo : DSp := fun _ _ _ _ => False
end Dl
namespace Lk30
open PySem PySem.Spec PyProof.Rows L2 Dl
abbrev Rw : PySem.W.OpenLaw := PySem.Challenge.rw_overscrawl_k30_names_recognized
def top (i : Nat) : Stmt := Rw.prog.main.body.getD i (.Pass ⟨0, 0, 0, 0⟩)
abbrev s_is_name : Stmt := top 4
abbrev s__law_cells : Stmt := top 6
abbrev s__law_draw : Stmt := top 7
abbrev s__law_any : Stmt := top 8
abbrev s__law_like : Stmt := top 9
abbrev s__law_bent : Stmt := top 10
abbrev s__law_is_name : Stmt := top 11
abbrev s_law : Stmt := top 12
theorem sc_is_name : FnScope [("value" : Str), ("sign" : Str)] [("value" : Str)] (defScope s_is_name) := ⟨rfl, rfl, rfl, by decide +kernel, rfl, by decide +kernel, by decide +kernel⟩
theorem sc__law_cells : FnScope [("_law_script" : Str), ("_law_state" : Str), ("_law_cell" : Str)] [("_law_script" : Str)] (defScope s__law_cells) := ⟨rfl, rfl, rfl, by decide +kernel, rfl, by decide +kernel, by decide +kernel⟩
theorem sc__law_draw : FnScope [("_law_bag" : Str), ("_law_sides" : Str), ("_law_cell" : Str), ("_law_digit" : Str), ("_law_seed" : Str)] [("_law_bag" : Str), ("_law_sides" : Str)] (defScope s__law_draw) := ⟨rfl, rfl, rfl, by decide +kernel, rfl, by decide +kernel, by decide +kernel⟩
theorem sc__law_any : FnScope [("_law_bag" : Str), ("_law_things" : Str)] [("_law_bag" : Str), ("_law_things" : Str)] (defScope s__law_any) := ⟨rfl, rfl, rfl, by decide +kernel, rfl, by decide +kernel, by decide +kernel⟩
theorem sc__law_like : FnScope [("_law_found" : Str), ("_law_due" : Str), ("_law_a" : Str), ("_law_b" : Str)] [("_law_found" : Str), ("_law_due" : Str)] (defScope s__law_like) := ⟨rfl, rfl, rfl, by decide +kernel, rfl, by decide +kernel, by decide +kernel⟩
theorem sc__law_bent : FnScope [("_law_bag" : Str), ("_law_text" : Str), ("_law_marks" : Str), ("_law_at" : Str), ("_law_sign" : Str)] [("_law_bag" : Str), ("_law_text" : Str), ("_law_marks" : Str)] (defScope s__law_bent) := ⟨rfl, rfl, rfl, by decide +kernel, rfl, by decide +kernel, by decide +kernel⟩
theorem sc__law_is_name : FnScope [("_law_value_z" : Str), ("_law_sign" : Str)] [("_law_value_z" : Str)] (defScope s__law_is_name) := ⟨rfl, rfl, rfl, by decide +kernel, rfl, by decide +kernel, by decide +kernel⟩
theorem sc_law : FnScope [("_law_script" : Str), ("_law_bag" : Str), ("_law_some" : Str), ("_law_turn" : Str), ("_law_word" : Str), ("_law_value_z" : Str), ("_law_due" : Str), ("_law_k" : Str)] [("_law_script" : Str)] (defScope s_law) := ⟨rfl, rfl, rfl, by decide +kernel, rfl, by decide +kernel, by decide +kernel⟩
structure Gs (K : PySem.W.Frag) (mg : Str → Option Value) : Prop where
  d_is_name : Df K mg "is_name" s_is_name
  d__law_cells : Df K mg "_law_cells" s__law_cells
  d__law_draw : Df K mg "_law_draw" s__law_draw
  d__law_any : Df K mg "_law_any" s__law_any
  d__law_like : Df K mg "_law_like" s__law_like
  d__law_bent : Df K mg "_law_bent" s__law_bent
  d__law_is_name : Df K mg "_law_is_name" s__law_is_name
  d_law : Df K mg "law" s_law
  c_RESERVED : mg "RESERVED" = some (.ref (He.ga K "RESERVED"))
  t_RESERVED : He.tupB K "RESERVED" (List.map dvOf [.str [110], .str [109], .str [107], .str [116, 104, 101, 110], .str [109, 105, 120], .str [117, 110, 116, 105, 108]]) = true
  c_MOST_SIGNS : ∃ t, mg "MOST_SIGNS" = some (.int 8 t)
  c_SMALL : ∃ t, mg "SMALL" = some (.str (mkS [97, 98, 99, 100, 101, 102, 103, 104, 105, 106, 107, 108, 109, 110, 111, 112, 113, 114, 115, 116, 117, 118, 119, 120, 121, 122]) t)
  fr_len : mg "len" = none
  fr_isinstance : mg "isinstance" = none
  fr_str : mg "str" = none
  fr_all : mg "all" = none
  fr_int : mg "int" = none
  fr_list : mg "list" = none
  fr_tuple : mg "tuple" = none
  fr_zip : mg "zip" = none
  fr_bool : mg "bool" = none
  fr_range : mg "range" = none
  ans : AnsOk K (ansW [])
def wb_is_name  : DS := (wSeq (wIfS (wOrT (wNotT (wTest (wCall (oIsi (ansW [])) (wCons (wVar 0) (wCons (wC (.ty "str")) wNil))))) (wOrT (wNotT (wTest (wChain oLe oLe (wC (.int 1)) (wLen (wVar 0)) (wC (.int 8))))) (wTest (wOp (oIn false) (wVar 0) (wC (.tup [.str [110], .str [109], .str [107], .str [116, 104, 101, 110], .str [109, 105, 120], .str [117, 110, 116, 105, 108]])))))) (wRet (wC (.bl false))) wNext)
  (wRet (wCall oAll (wCons (wLc (wIt (wVar 0)) (gN 1) wYes (wOp (oIn false) (wVar 1) (wC (.str [97, 98, 99, 100, 101, 102, 103, 104, 105, 106, 107, 108, 109, 110, 111, 112, 113, 114, 115, 116, 117, 118, 119, 120, 121, 122]))) [1]) wNil))))
theorem bd_is_name {P : Program} {w : World} {K : PySem.W.Frag} {mg : Str → Option Value} {base : Heap} {k : Nat} (G : Gs K mg)  :
    BodyD P w K mg base "is_name" s_is_name [("value" : Str), ("sign" : Str)] k (wb_is_name ) :=
  fun f cdv A outer s H E n hr => (pssd_cons (psd_if (PWD.pt (pwd_or (ptd_not (ptd_val (pd_isi G.ans (by rfl) G.fr_isinstance (pad_cons (pd_var 0) (pad_cons (pd_gTy (by rfl) G.fr_str (by decide +kernel)) pad_nil))))) (pwd_or (ptd_not (ptd_chain op_le op_le ops_le ops_le pd_int (pd_len (by rfl) G.fr_len (pd_var 0)) (pd_gInt (by rfl) G.c_MOST_SIGNS))) (pwd_or1 (ptd_in (pd_var 0) (pd_gTup [.str [110], .str [109], .str [107], .str [116, 104, 101, 110], .str [109, 105, 120], .str [117, 110, 116, 105, 108]] (by rfl) G.c_RESERVED G.t_RESERVED))))))
  (pssd_one (psd_ret pd_bl))
  pssd_nil)
  (pssd_one (psd_ret (pd_all rfl (by rfl) G.fr_all (pad_cons (pd_lc [("sign", 1)] rfl sc_is_name.nd (pid_any (pd_var 0)) (by dsimp only [cxD, cxOf, Cx.blk, envOfC, compEnvC]; exact blkOk_by (by decide +kernel)) (fun _ _ _ _ _ => (pgw_name sc_is_name.nd)) (fun _ _ _ _ _ => ptsd_nil) (fun _ _ _ _ _ => (pd_in (pd_var 1) (pd_gStr [97, 98, 99, 100, 101, 102, 103, 104, 105, 106, 107, 108, 109, 110, 111, 112, 113, 114, 115, 116, 117, 118, 119, 120, 121, 122] (by rfl) G.c_SMALL)))) pad_nil)))))
theorem bd__law_cells {P : Program} {w : World} {K : PySem.W.Frag} {mg : Str → Option Value} {base : Heap} {k : Nat} (G : Gs K mg)  :
    BodyD P w K mg base "_law_cells" s__law_cells [("_law_script" : Str), ("_law_state" : Str), ("_law_cell" : Str)] k (wb_law_cells) :=
  fun f cdv A outer s H E n hr => (pssd_cons (psd_set (i := 1) sc__law_cells.nd pd_int)
  (pssd_cons (psd_for (passes_of rfl) rfl (pid_any (pd_sliceScr (pd_var 0) pod_none (pod_some pd_int))) (pgd_name sc__law_cells.nd)
  (pssd_one (psd_set (i := 1) sc__law_cells.nd (pd_mod (pd_intI (by rfl) G.fr_int (pad_cons (pd_add (pd_add (pd_mul (pd_var 1) pd_int) (pd_mod (pd_intI (by rfl) G.fr_int (pad_cons (pd_var 2) pad_nil)) pd_int)) pd_int) pad_nil)) pd_int))))
  (pssd_one (psd_ret (pd_lstN (pad_cons (pd_list rfl (by rfl) G.fr_list (pad_cons (pd_sliceScr (pd_var 0) pod_none (pod_some pd_int)) pad_nil)) (pad_cons pd_int (pad_cons pd_int (pad_cons (pd_var 1) (pad_cons pd_int pad_nil))))))))))
theorem bd__law_draw {P : Program} {w : World} {K : PySem.W.Frag} {mg : Str → Option Value} {base : Heap} {k : Nat} (G : Gs K mg)  :
    BodyD P w K mg base "_law_draw" s__law_draw [("_law_bag" : Str), ("_law_sides" : Str), ("_law_cell" : Str), ("_law_digit" : Str), ("_law_seed" : Str)] k (wb_law_draw) :=
  fun f cdv A outer s H E n hr => (pssd_cons (psd_asg (pd_add (pd_ixW (pd_var 0) pd_int) pd_int) (pgd_sub (pd_var 0) pd_int))
  (pssd_cons (psd_if (PWD.pt (pwd_and (ptd_eq hr (pd_ixW (pd_var 0) pd_int) pd_int) (pwd_and1 (ptd_lt (pd_ixW (pd_var 0) pd_int) (pd_len (by rfl) G.fr_len (pd_ixW (pd_var 0) pd_int))))))
  (pssd_cons (psd_set (i := 2) sc__law_draw.nd (pd_ixW (pd_ixW (pd_var 0) pd_int) (pd_ixW (pd_var 0) pd_int)))
  (pssd_cons (psd_asg (pd_add (pd_ixW (pd_var 0) pd_int) pd_int) (pgd_sub (pd_var 0) pd_int))
  (pssd_one (psd_if (ptd_ge (pd_var 2) (pd_pow pd_int pd_int))
  (pssd_one (psd_asg (pd_var 2) (pgd_sub (pd_var 0) pd_int)))
  (pssd_one (psd_asg (pd_mod (pd_intI (by rfl) G.fr_int (pad_cons (pd_add (pd_add (pd_mul (pd_ixW (pd_var 0) pd_int) pd_int) (pd_mul (pd_mod (pd_intI (by rfl) G.fr_int (pad_cons (pd_var 2) pad_nil)) pd_int) pd_int)) pd_int) pad_nil)) pd_int) (pgd_sub (pd_var 0) pd_int)))))))
  pssd_nil)
  (pssd_cons (psd_if (ptd_gt (pd_ixW (pd_var 0) pd_int) pd_int)
  (pssd_cons (psd_set (i := 3) sc__law_draw.nd (pd_mod (pd_intI (by rfl) G.fr_int (pad_cons (pd_ixW (pd_var 0) pd_int) pad_nil)) (pd_var 1)))
  (pssd_cons (psd_asg (pd_fdiv (pd_ixW (pd_var 0) pd_int) (pd_var 1)) (pgd_sub (pd_var 0) pd_int))
  (pssd_one (psd_ret (pd_var 3)))))
  pssd_nil)
  (pssd_cons (psd_set (i := 4) sc__law_draw.nd (pd_ixW (pd_var 0) pd_int))
  (pssd_cons (psd_asg (pd_mod (pd_intI (by rfl) G.fr_int (pad_cons (pd_add (pd_add (pd_add (pd_pow (pd_var 4) pd_int) (pd_mul (pd_var 4) pd_int)) (pd_mul (pd_ixW (pd_var 0) pd_int) pd_int)) pd_int) pad_nil)) pd_int) (pgd_sub (pd_var 0) pd_int))
  (pssd_one (psd_ret (pd_mod (pd_intI (by rfl) G.fr_int (pad_cons (pd_add (pd_fdiv (pd_ixW (pd_var 0) pd_int) pd_int) (pd_mul (pd_mod (pd_intI (by rfl) G.fr_int (pad_cons (pd_ixW (pd_var 0) pd_int) pad_nil)) pd_int) pd_int)) pad_nil)) (pd_var 1)))))))))
theorem bd__law_any {P : Program} {w : World} {K : PySem.W.Frag} {mg : Str → Option Value} {base : Heap} {k : Nat} (G : Gs K mg) {k__law_draw : Nat} {c__law_draw : DSp} (l__law_draw : k__law_draw ≤ k) (h__law_draw : FnD P w K mg base "_law_draw" k__law_draw 2 c__law_draw) :
    BodyD P w K mg base "_law_any" s__law_any [("_law_bag" : Str), ("_law_things" : Str)] k (wb_law_any c__law_draw) :=
  fun f cdv A outer s H E n hr => (pssd_one (psd_ret (pd_ixW (pd_var 1) (pd_calN h__law_draw (hr.mono l__law_draw) (by rfl) (pad_cons (pd_var 0) (pad_cons (pd_len (by rfl) G.fr_len (pd_var 1)) pad_nil))))))
theorem bd__law_like {P : Program} {w : World} {K : PySem.W.Frag} {mg : Str → Option Value} {base : Heap} {k : Nat} (G : Gs K mg) {k__law_like : Nat} {c__law_like : DSp} (l__law_like : k__law_like ≤ k) (h__law_like : FnD P w K mg base "_law_like" k__law_like 2 c__law_like) :
    BodyD P w K mg base "_law_like" s__law_like [("_law_found" : Str), ("_law_due" : Str), ("_law_a" : Str), ("_law_b" : Str)] k (wb_law_like (ansW []) c__law_like) :=
  fun f cdv A outer s H E n hr => (pssd_cons (psd_if (ptd_val (pd_isi G.ans (by rfl) G.fr_isinstance (pad_cons (pd_var 1) (pad_cons (pd_tup (pad_cons (pd_gTy (by rfl) G.fr_list (by decide +kernel)) (pad_cons (pd_gTy (by rfl) G.fr_tuple (by decide +kernel)) pad_nil))) pad_nil))))
  (pssd_cons (psd_if (PWD.pt (pwd_or (ptd_ne hr (pd_isi G.ans (by rfl) G.fr_isinstance (pad_cons (pd_var 0) (pad_cons (pd_gTy (by rfl) G.fr_list (by decide +kernel)) pad_nil))) (pd_isi G.ans (by rfl) G.fr_isinstance (pad_cons (pd_var 1) (pad_cons (pd_gTy (by rfl) G.fr_list (by decide +kernel)) pad_nil)))) (pwd_or1 (ptd_ne hr (pd_isi G.ans (by rfl) G.fr_isinstance (pad_cons (pd_var 0) (pad_cons (pd_gTy (by rfl) G.fr_tuple (by decide +kernel)) pad_nil))) (pd_isi G.ans (by rfl) G.fr_isinstance (pad_cons (pd_var 1) (pad_cons (pd_gTy (by rfl) G.fr_tuple (by decide +kernel)) pad_nil)))))))
  (pssd_one (psd_ret pd_bl))
  pssd_nil)
  (pssd_one (psd_ret (pd_and (pd_eq hr (pd_len (by rfl) G.fr_len (pd_var 0)) (pd_len (by rfl) G.fr_len (pd_var 1))) (pd_one (pd_all rfl (by rfl) G.fr_all (pad_cons (pd_lc [("_law_a", 2), ("_law_b", 3)] rfl sc__law_like.nd (pid_zip (by rfl) G.fr_zip (pad_cons (pd_var 0) (pad_cons (pd_var 1) pad_nil))) (by dsimp only [cxD, cxOf, Cx.blk, envOfC, compEnvC]; exact blkOk_by (by decide +kernel)) (fun _ _ _ _ _ => (pgw_tup rfl (pgsw_cons (pgw_name sc__law_like.nd) (pgsw_cons (pgw_name sc__law_like.nd) pgsw_nil)))) (fun _ _ _ _ _ => ptsd_nil) (fun _ _ _ _ _ => (pd_calN h__law_like (hr.mono l__law_like) (by rfl) (pad_cons (pd_var 2) (pad_cons (pd_var 3) pad_nil))))) pad_nil)))))))
  pssd_nil)
  (pssd_cons (psd_if (PWD.pt (pwd_or (ptd_isN (pd_var 1) pd_non) (pwd_or1 (ptd_isN (pd_var 0) pd_non))))
  (pssd_one (psd_ret (pd_and (pd_isN (pd_var 1) pd_non) (pd_one (pd_isN (pd_var 0) pd_non)))))
  pssd_nil)
  (pssd_cons (psd_if (PWD.pt (pwd_or (ptd_ne hr (pd_isi G.ans (by rfl) G.fr_isinstance (pad_cons (pd_var 1) (pad_cons (pd_gTy (by rfl) G.fr_bool (by decide +kernel)) pad_nil))) (pd_isi G.ans (by rfl) G.fr_isinstance (pad_cons (pd_var 0) (pad_cons (pd_gTy (by rfl) G.fr_bool (by decide +kernel)) pad_nil)))) (pwd_or1 (ptd_ne hr (pd_isi G.ans (by rfl) G.fr_isinstance (pad_cons (pd_var 1) (pad_cons (pd_gTy (by rfl) G.fr_int (by decide +kernel)) pad_nil))) (pd_isi G.ans (by rfl) G.fr_isinstance (pad_cons (pd_var 0) (pad_cons (pd_gTy (by rfl) G.fr_int (by decide +kernel)) pad_nil)))))))
  (pssd_one (psd_ret pd_bl))
  pssd_nil)
  (pssd_one (psd_ret (pd_and (pd_eq hr (pd_isi G.ans (by rfl) G.fr_isinstance (pad_cons (pd_var 1) (pad_cons (pd_gTy (by rfl) G.fr_str (by decide +kernel)) pad_nil))) (pd_isi G.ans (by rfl) G.fr_isinstance (pad_cons (pd_var 0) (pad_cons (pd_gTy (by rfl) G.fr_str (by decide +kernel)) pad_nil)))) (pd_one (pd_eq hr (pd_var 0) (pd_var 1)))))))))
def wb__law_bent (c__law_any : DSp) (c__law_draw : DSp) : DS := (wSeq (wPar 3 4 (wCons (wCalN 2 c__law_draw (wCons (wVar 0) (wCons (wOp oAdd (wLen (wVar 1)) (wC (.int 1))) wNil))) (wCons (wCalN 2 c__law_any (wCons (wVar 0) (wCons (wOp oAdd (wCall oListS (wCons (wVar 2) wNil)) (wLst (wCons (wC (.str [])) wNil))) wNil))) wNil)))
  (wRet (wOp oAdd (wOp oAdd (wSl (wVar 1) wNoPart (wPart (wVar 3))) (wVar 4)) (wSl (wVar 1) (wPart (wOp oAdd (wVar 3) (wCalN 2 c__law_draw (wCons (wVar 0) (wCons (wC (.int 2)) wNil))))) wNoPart))))
theorem bd__law_bent {P : Program} {w : World} {K : PySem.W.Frag} {mg : Str → Option Value} {base : Heap} {k : Nat} (G : Gs K mg) {k__law_any : Nat} {c__law_any : DSp} (l__law_any : k__law_any ≤ k) (h__law_any : FnD P w K mg base "_law_any" k__law_any 2 c__law_any) {k__law_draw : Nat} {c__law_draw : DSp} (l__law_draw : k__law_draw ≤ k) (h__law_draw : FnD P w K mg base "_law_draw" k__law_draw 2 c__law_draw) :
    BodyD P w K mg base "_law_bent" s__law_bent [("_law_bag" : Str), ("_law_text" : Str), ("_law_marks" : Str), ("_law_at" : Str), ("_law_sign" : Str)] k (wb__law_bent c__law_any c__law_draw) :=
  fun f cdv A outer s H E n hr => (pssd_cons (psd_par (i := 3) (j := 4) rfl sc__law_bent.nd (pad_cons (pd_calN h__law_draw (hr.mono l__law_draw) (by rfl) (pad_cons (pd_var 0) (pad_cons (pd_add (pd_len (by rfl) G.fr_len (pd_var 1)) pd_int) pad_nil))) (pad_cons (pd_calN h__law_any (hr.mono l__law_any) (by rfl) (pad_cons (pd_var 0) (pad_cons (pd_add (pd_list rfl (by rfl) G.fr_list (pad_cons (pd_var 2) pad_nil)) (pd_lst (pad_cons (pd_str []) pad_nil))) pad_nil))) pad_nil)))
  (pssd_one (psd_ret (pd_add (pd_add (pd_slice (pd_var 1) pod_none (pod_some (pd_var 3))) (pd_var 4)) (pd_slice (pd_var 1) (pod_some (pd_add (pd_var 3) (pd_calN h__law_draw (hr.mono l__law_draw) (by rfl) (pad_cons (pd_var 0) (pad_cons pd_int pad_nil))))) pod_none)))))
def wb__law_is_name  : DS := (wSeq (wIfS (wOrT (wNotT (wTest (wCall (oIsi (ansW [])) (wCons (wVar 0) (wCons (wC (.ty "str")) wNil))))) (wOrT (wNotT (wTest (wChain oLt oLt (wC (.int 0)) (wLen (wVar 0)) (wC (.int 9))))) (wTest (wOp (oIn false) (wVar 0) (wTup (wCons (wC (.str [110])) (wCons (wC (.str [109])) (wCons (wC (.str [107])) (wCons (wC (.str [116, 104, 101, 110])) (wCons (wC (.str [109, 105, 120])) (wCons (wC (.str [117, 110, 116, 105, 108])) wNil))))))))))) (wRet (wC (.bl false))) wNext)
  (wRet (wCall oAll (wCons (wLc (wIt (wVar 0)) (gN 1) wYes (wOp (oIn false) (wVar 1) (wC (.str [97, 98, 99, 100, 101, 102, 103, 104, 105, 106, 107, 108, 109, 110, 111, 112, 113, 114, 115, 116, 117, 118, 119, 120, 121, 122]))) [1]) wNil))))
theorem bd__law_is_name {P : Program} {w : World} {K : PySem.W.Frag} {mg : Str → Option Value} {base : Heap} {k : Nat} (G : Gs K mg)  :
    BodyD P w K mg base "_law_is_name" s__law_is_name [("_law_value_z" : Str), ("_law_sign" : Str)] k (wb__law_is_name ) :=
  fun f cdv A outer s H E n hr => (pssd_cons (psd_if (PWD.pt (pwd_or (ptd_not (ptd_val (pd_isi G.ans (by rfl) G.fr_isinstance (pad_cons (pd_var 0) (pad_cons (pd_gTy (by rfl) G.fr_str (by decide +kernel)) pad_nil))))) (pwd_or (ptd_not (ptd_chain op_lt op_lt ops_lt ops_lt pd_int (pd_len (by rfl) G.fr_len (pd_var 0)) pd_int)) (pwd_or1 (ptd_in (pd_var 0) (pd_tup (pad_cons (pd_str [110]) (pad_cons (pd_str [109]) (pad_cons (pd_str [107]) (pad_cons (pd_str [116, 104, 101, 110]) (pad_cons (pd_str [109, 105, 120]) (pad_cons (pd_str [117, 110, 116, 105, 108]) pad_nil))))))))))))
  (pssd_one (psd_ret pd_bl))
  pssd_nil)
  (pssd_one (psd_ret (pd_all rfl (by rfl) G.fr_all (pad_cons (pd_lc [("_law_sign", 1)] rfl sc__law_is_name.nd (pid_any (pd_var 0)) (by dsimp only [cxD, cxOf, Cx.blk, envOfC, compEnvC]; exact blkOk_by (by decide +kernel)) (fun _ _ _ _ _ => (pgw_name sc__law_is_name.nd)) (fun _ _ _ _ _ => ptsd_nil) (fun _ _ _ _ _ => (pd_in (pd_var 1) (pd_str [97, 98, 99, 100, 101, 102, 103, 104, 105, 106, 107, 108, 109, 110, 111, 112, 113, 114, 115, 116, 117, 118, 119, 120, 121, 122])))) pad_nil)))))
def wb_law (c__law_any : DSp) (c__law_bent : DSp) (c__law_cells : DSp) (c__law_draw : DSp) (c__law_is_name : DSp) (c__law_like : DSp) (c_is_name : DSp) : DS := (wSeq (wAsg (wCalN 1 c__law_cells (wCons (wVar 0) wNil)) (gN 1))
  (wSeq (wAsg (wLst (wCons (wC (.str [110])) (wCons (wC (.str [109])) (wCons (wC (.str [107])) (wCons (wC (.str [116, 104, 101, 110])) (wCons (wC (.str [109, 105, 120])) (wCons (wC (.str [117, 110, 116, 105, 108])) (wCons (wC (.str [])) (wCons (wC (.str [97])) (wCons (wC (.str [97, 98])) (wCons (wC (.str [116, 104, 101, 110, 120])) (wCons (wC (.str [110, 110])) (wCons (wC (.str [65])) (wCons (wC (.str [97, 49])) (wCons (wC (.str [97, 32, 98])) (wCons (wC (.str [97, 98, 99, 100, 101, 102, 103, 104])) (wCons (wC (.str [97, 98, 99, 100, 101, 102, 103, 104, 105])) wNil))))))))))))))))) (gN 2))
  (wSeq (wAsg (wOp oAdd (wVar 2) (wLst (wCons (wC .non) (wCons (wC (.int 3)) (wCons (wC (.bl true)) (wCons (wTup (wCons (wC (.str [97])) wNil)) (wCons (wLst (wCons (wC (.str [97])) wNil)) (wCons (wC (.str [117, 115, 101])) (wCons (wC (.str [119, 114, 105, 116, 101])) (wCons (wC (.str [116, 105, 109, 101, 115])) (wCons (wC (.str [109, 105, 120, 120])) wNil))))))))))) (gN 2))
  (wSeq (wAsg (wOp oAdd (wVar 2) (wLst (wCons (wC (.str [115, 101, 116])) (wCons (wC (.str [100, 114, 111, 112])) (wCons (wC (.str [114, 101, 110, 97, 109, 101])) (wCons (wC (.str [117, 110, 100, 111])) (wCons (wC (.str [114, 101, 100, 111])) (wCons (wC (.str [110, 97, 109, 101, 115])) (wCons (wC (.str [115, 104, 111, 119])) (wCons (wC (.str [97, 108, 105, 107, 101])) (wCons (wC (.str [99, 104, 97, 110, 99, 101])) (wCons (wC (.str [118, 97, 108, 117, 101])) (wCons (wC (.str [109, 101, 97, 110])) (wCons (wC (.str [110, 111, 110, 101])) (wCons (wC (.str [111, 107])) wNil))))))))))))))) (gN 2))
  (wSeq (wAsg (wOp oAdd (wVar 2) (wLst (wCons (wC (.str [98, 111, 97, 114, 100])) (wCons (wC (.str [101, 114, 114, 111, 114])) (wCons (wC (.str [105, 110, 118, 97, 108, 105, 100])) (wCons (wC (.str [112, 97, 114, 116, 101, 100])) (wCons (wC (.str [108, 97, 115, 116])) (wCons (wC (.str [99, 111, 105, 110])) wNil)))))))) (gN 2))
  (wSeq (wFor (wRng1 (wCons (wC (.int 20)) wNil)) (gN 3) (wSeq (wAsg (wM1 oJoin (wC (.str [])) (wLc (wRng1 (wCons (wOp oAdd (wC (.int 1)) (wCalN 2 c__law_draw (wCons (wVar 1) (wCons (wC (.int 9)) wNil)))) wNil)) (gN 7) wYes (wCalN 2 c__law_any (wCons (wVar 1) (wCons (wC (.str [110, 109, 107, 97, 98, 116, 104, 101, 105, 117, 120])) wNil))) [7])) (gN 4))
  (wAsg (wOp oAdd (wVar 2) (wLst (wCons (wVar 4) (wCons (wCalN 3 c__law_bent (wCons (wVar 1) (wCons (wVar 4) (wCons (wC (.str [97, 98, 90, 49, 32])) wNil)))) wNil)))) (gN 2))))
  (wSeq (wFor (wIt (wVar 2)) (gN 5) (wSeq (wAsg (wCalN 1 c__law_is_name (wCons (wVar 5) wNil)) (gN 6))
  (wIfS (wNotT (wTest (wCalN 2 c__law_like (wCons (wLst (wCons (wCalN 1 c_is_name (wCons (wVar 5) wNil)) (wCons (wCallK c_is_name 1 wNil (wCons (wVar 5) wNil)) wNil))) (wCons (wLst (wCons (wVar 6) (wCons (wVar 6) wNil))) wNil))))) (wRet (wC (.bl false))) wNext)))
  (wRet (wC (.bl true))))))))))
theorem bd_law {P : Program} {w : World} {K : PySem.W.Frag} {mg : Str → Option Value} {base : Heap} {k : Nat} (G : Gs K mg) {k__law_any : Nat} {c__law_any : DSp} (l__law_any : k__law_any ≤ k) (h__law_any : FnD P w K mg base "_law_any" k__law_any 2 c__law_any) {k__law_bent : Nat} {c__law_bent : DSp} (l__law_bent : k__law_bent ≤ k) (h__law_bent : FnD P w K mg base "_law_bent" k__law_bent 3 c__law_bent) {k__law_cells : Nat} {c__law_cells : DSp} (l__law_cells : k__law_cells ≤ k) (h__law_cells : FnD P w K mg base "_law_cells" k__law_cells 1 c__law_cells) {k__law_draw : Nat} {c__law_draw : DSp} (l__law_draw : k__law_draw ≤ k) (h__law_draw : FnD P w K mg base "_law_draw" k__law_draw 2 c__law_draw) {k__law_is_name : Nat} {c__law_is_name : DSp} (l__law_is_name : k__law_is_name ≤ k) (h__law_is_name : FnD P w K mg base "_law_is_name" k__law_is_name 1 c__law_is_name) {k__law_like : Nat} {c__law_like : DSp} (l__law_like : k__law_like ≤ k) (h__law_like : FnD P w K mg base "_law_like" k__law_like 2 c__law_like) {k_is_name : Nat} {c_is_name : DSp} (l_is_name : k_is_name ≤ k) (h_is_name : FnD P w K mg base "is_name" k_is_name 1 c_is_name) (k0_is_name : FnK P w K mg base "is_name" k_is_name 1 0 [("value" : Str)] c_is_name) :
    BodyD P w K mg base "law" s_law [("_law_script" : Str), ("_law_bag" : Str), ("_law_some" : Str), ("_law_turn" : Str), ("_law_word" : Str), ("_law_value_z" : Str), ("_law_due" : Str), ("_law_k" : Str)] k (wb_law c__law_any c__law_bent c__law_cells c__law_draw c__law_is_name c__law_like c_is_name) :=
  fun f cdv A outer s H E n hr => (pssd_cons (psd_set (i := 1) sc_law.nd (pd_calN h__law_cells (hr.mono l__law_cells) (by rfl) (pad_cons (pd_var 0) pad_nil)))
  (pssd_cons (psd_set (i := 2) sc_law.nd (pd_lst (pad_cons (pd_str [110]) (pad_cons (pd_str [109]) (pad_cons (pd_str [107]) (pad_cons (pd_str [116, 104, 101, 110]) (pad_cons (pd_str [109, 105, 120]) (pad_cons (pd_str [117, 110, 116, 105, 108]) (pad_cons (pd_str []) (pad_cons (pd_str [97]) (pad_cons (pd_str [97, 98]) (pad_cons (pd_str [116, 104, 101, 110, 120]) (pad_cons (pd_str [110, 110]) (pad_cons (pd_str [65]) (pad_cons (pd_str [97, 49]) (pad_cons (pd_str [97, 32, 98]) (pad_cons (pd_str [97, 98, 99, 100, 101, 102, 103, 104]) (pad_cons (pd_str [97, 98, 99, 100, 101, 102, 103, 104, 105]) pad_nil))))))))))))))))))
  (pssd_cons (psd_set (i := 2) sc_law.nd (pd_add (pd_var 2) (pd_lst (pad_cons pd_non (pad_cons pd_int (pad_cons pd_bl (pad_cons (pd_tup (pad_cons (pd_str [97]) pad_nil)) (pad_cons (pd_lst (pad_cons (pd_str [97]) pad_nil)) (pad_cons (pd_str [117, 115, 101]) (pad_cons (pd_str [119, 114, 105, 116, 101]) (pad_cons (pd_str [116, 105, 109, 101, 115]) (pad_cons (pd_str [109, 105, 120, 120]) pad_nil))))))))))))
  (pssd_cons (psd_set (i := 2) sc_law.nd (pd_add (pd_var 2) (pd_lst (pad_cons (pd_str [115, 101, 116]) (pad_cons (pd_str [100, 114, 111, 112]) (pad_cons (pd_str [114, 101, 110, 97, 109, 101]) (pad_cons (pd_str [117, 110, 100, 111]) (pad_cons (pd_str [114, 101, 100, 111]) (pad_cons (pd_str [110, 97, 109, 101, 115]) (pad_cons (pd_str [115, 104, 111, 119]) (pad_cons (pd_str [97, 108, 105, 107, 101]) (pad_cons (pd_str [99, 104, 97, 110, 99, 101]) (pad_cons (pd_str [118, 97, 108, 117, 101]) (pad_cons (pd_str [109, 101, 97, 110]) (pad_cons (pd_str [110, 111, 110, 101]) (pad_cons (pd_str [111, 107]) pad_nil))))))))))))))))
  (pssd_cons (psd_set (i := 2) sc_law.nd (pd_add (pd_var 2) (pd_lst (pad_cons (pd_str [98, 111, 97, 114, 100]) (pad_cons (pd_str [101, 114, 114, 111, 114]) (pad_cons (pd_str [105, 110, 118, 97, 108, 105, 100]) (pad_cons (pd_str [112, 97, 114, 116, 101, 100]) (pad_cons (pd_str [108, 97, 115, 116]) (pad_cons (pd_str [99, 111, 105, 110]) pad_nil)))))))))
  (pssd_cons (psd_for (passes_of rfl) rfl (pid_range1 (by rfl) G.fr_range (pad_cons pd_int pad_nil)) (pgd_name sc_law.nd)
  (pssd_cons (psd_set (i := 4) sc_law.nd (pd_join (pd_str []) (pd_lc [("_law_k", 7)] rfl sc_law.nd (pid_range1 (by rfl) G.fr_range (pad_cons (pd_add pd_int (pd_calN h__law_draw (hr.mono l__law_draw) (by rfl) (pad_cons (pd_var 1) (pad_cons pd_int pad_nil)))) pad_nil)) (by dsimp only [cxD, cxOf, Cx.blk, envOfC, compEnvC]; exact blkOk_by (by decide +kernel)) (fun _ _ _ _ _ => (pgw_name sc_law.nd)) (fun _ _ _ _ _ => ptsd_nil) (fun _ _ _ _ _ => (pd_calN h__law_any (hr.mono l__law_any) (by rfl) (pad_cons (pd_var 1) (pad_cons (pd_str [110, 109, 107, 97, 98, 116, 104, 101, 105, 117, 120]) pad_nil)))))))
  (pssd_one (psd_set (i := 2) sc_law.nd (pd_add (pd_var 2) (pd_lst (pad_cons (pd_var 4) (pad_cons (pd_calN h__law_bent (hr.mono l__law_bent) (by rfl) (pad_cons (pd_var 1) (pad_cons (pd_var 4) (pad_cons (pd_str [97, 98, 90, 49, 32]) pad_nil)))) pad_nil))))))))
  (pssd_cons (psd_for (passes_of rfl) rfl (pid_any (pd_var 2)) (pgd_name sc_law.nd)
  (pssd_cons (psd_set (i := 6) sc_law.nd (pd_calN h__law_is_name (hr.mono l__law_is_name) (by rfl) (pad_cons (pd_var 5) pad_nil)))
  (pssd_one (psd_if (ptd_not (ptd_val (pd_calN h__law_like (hr.mono l__law_like) (by rfl) (pad_cons (pd_lst (pad_cons (pd_calN h_is_name (hr.mono l_is_name) (by rfl) (pad_cons (pd_var 5) pad_nil)) (pad_cons (pd_callK0 k0_is_name (hr.mono l_is_name) (by rfl) (pkd_cons (pd_var 5) pkd_nil)) pad_nil))) (pad_cons (pd_lst (pad_cons (pd_var 6) (pad_cons (pd_var 6) pad_nil))) pad_nil)))))
  (pssd_one (psd_ret pd_bl))
  pssd_nil))))
  (pssd_one (psd_ret pd_bl)))))))))
def small : List Nat := [97, 98, 99, 100, 101, 102, 103, 104, 105, 106, 107, 108, 109, 110, 111, 112, 113, 114, 115, 116, 117, 118, 119, 120, 121, 122]
def resV : List V := [.str (mkS [110]), .str (mkS [109]), .str (mkS [107]), .str (mkS [116, 104, 101, 110]), .str (mkS [109, 105, 120]), .str (mkS [117, 110, 116, 105, 108])]
def isNm : D → Bool
  | .str x => decide (1 ≤ x.length) && (decide (x.length ≤ 8) && (!inV (.str (mkS x)) resV && x.all fun c => decide (c ∈ small)))
  | _ => false
def tyB (d : D) : Option String := match d with
  | .non => some "NoneType"
  | .bl _ => some "bool"
  | .int _ => some "int"
  | .tup _ => some "tuple"
  | .lst _ => some "list"
  | _ => none
def nmOk : D → Bool
  | .str x => decide (x.length ≤ 100)
  | .non => true
  | .bl _ => true
  | .int _ => true
  | .tup _ => true
  | .lst _ => true
  | _ => false
def sp_name : DSp := spDat fun ds Q _ => ∃ d, ds = [d] ∧ nmOk d = true ∧ Q (.bl (isNm d))
def sp_bent : DSp := spBag fun ds Q _ => ∃ t m, ds = [.str t, .str m] ∧ t.length ≤ 40 ∧ m.length ≤ 1000 ∧ ∀ u : List Nat, u.length ≤ 100 → Q (.str u)
def sp_law : DSp := fun ws μ Q _ => ∃ xs : List Int, ws = [.scr xs] ∧ μ = [] ∧ ∀ μ', Q (.d (.bl true)) μ'
theorem notStr {d : D} (h : nmOk d = true) (n : ∀ x, d ≠ .str x) : isNm d = false ∧ ∃ t, tyOf d = some (.ty t) ∧ ansB (.ty t) (.ty "str") = some false := by
  cases d with
  | str x => exact absurd rfl (n x)
  | non => exact ⟨rfl, "NoneType", rfl, by decide +kernel⟩
  | bl _ => exact ⟨rfl, "bool", rfl, by decide +kernel⟩
  | int _ => exact ⟨rfl, "int", rfl, by decide +kernel⟩
  | tup _ => exact ⟨rfl, "tuple", rfl, by decide +kernel⟩
  | lst _ => exact ⟨rfl, "list", rfl, by decide +kernel⟩
  | dic _ _ => cases h
  | ins _ _ _ => cases h
  | ty _ => cases h
  | cls _ => cases h
theorem signs_in {v : Option W} {Q : List D → List O → Prop} {μ : List O} : ∀ (x : List Nat) (acc : List D), acc.length + x.length ≤ 16777216 → Q (acc ++ x.map fun c => .bl (decide (c ∈ small))) μ →
    wLcL (gN 1) wYes (wOp (oIn false) (wVar 1) (wC (.str small))) [v, none] Q (x.map fun c => .str [c]) acc μ
  | [], acc, _, h => by
    have h : Q acc μ := by simpa using h
    exact h
  | c :: x, acc, hz, h => by
    refine brT rfl ?_
    refine ⟨by simp at hz; omega, ?_⟩
    refine signs_in x _ (by simp at hz ⊢; omega) ?_
    simpa using h
theorem bools_map (f : Nat → Bool) : ∀ x : List Nat, bools (x.map fun c => .bl (f c)) = some (x.map f)
  | [] => rfl
  | c :: x => by
    rw [List.map_cons, List.map_cons]
    unfold bools
    rw [bools_map f x]
theorem all_map (f : Nat → Bool) (x : List Nat) : (x.map f).all id = x.all f := by
  rw [List.all_map]; rfl
theorem pure_is_name (ws : List W) (μ : List O) (Q : W → List O → Prop) (E : Ex → List O → Prop) (h : sp_name ws μ Q E) : wb_is_name { nx := fun st => Q (.d .non) st.μ, rt := Q, ex := fun x st => E x st.μ } ⟨startD 2 ws, μ⟩ := by
  obtain ⟨ds, rfl, d, rfl, ok, hq⟩ := h
  by_cases hs : ∃ x, d = .str x
  · obtain ⟨x, rfl⟩ := hs
    have hx : x.length ≤ 100 := of_decide_eq_true ok
    refine isi1 "str" "str" true rfl (by decide +kernel) ?_
    refine brF rfl ?_
    refine ⟨by omega, ?_⟩
    have bad : isNm (.str x) = false → Q (.d (.bl false)) μ := fun e => by rw [← e]; exact hq
    refine br (fun h1 => ?_) fun h1 => ?_
    · have h1 : (1 : Int) ≤ (x.length : Int) := of_decide_eq_true h1
      refine br (fun h2 => ?_) fun h2 => ?_
      · refine brT rfl (bad ?_)
        have h2 : ¬ ((x.length : Int) ≤ 8) := by simpa using h2
        have : ¬ (x.length ≤ 8) := by omega
        simp [isNm, this]
      · have h2 : (x.length : Int) ≤ 8 := by simpa using h2
        refine ⟨_, _, _, rfl, rfl, rfl, ?_⟩
        refine br (fun h3 => ?_) fun h3 => ?_
        · refine bad ?_
          have h3 : inV (.str (mkS x)) resV = true := h3
          simp [isNm, h3]
        · have h3 : inV (.str (mkS x)) resV = false := h3
          refine ⟨signs_in x [] (by simp; omega) ?_⟩
          refine ⟨_, bools_map (fun c => decide (c ∈ small)) x, ?_⟩
          rw [all_map]
          have e : isNm (.str x) = x.all fun c => decide (c ∈ small) := by
            have a1 : 1 ≤ x.length := by omega
            have a2 : x.length ≤ 8 := by omega
            simp [isNm, h3, a1, a2]
          rw [e] at hq
          exact hq
    · refine brT rfl (brT rfl (bad ?_))
      have h1 : ¬ ((1 : Int) ≤ (x.length : Int)) := of_decide_eq_false h1
      have : ¬ (1 ≤ x.length) := by omega
      simp [isNm, this]
  · obtain ⟨e, t, h1, h2⟩ := notStr ok fun x z => hs ⟨x, z⟩
    refine isi1 t "str" false h1 h2 ?_
    refine brT rfl (brT rfl ?_)
    rw [e] at hq
    exact hq
theorem pure_law_is_name (ws : List W) (μ : List O) (Q : W → List O → Prop) (E : Ex → List O → Prop) (h : sp_name ws μ Q E) : wb__law_is_name { nx := fun st => Q (.d .non) st.μ, rt := Q, ex := fun x st => E x st.μ } ⟨startD 2 ws, μ⟩ := by
  obtain ⟨ds, rfl, d, rfl, ok, hq⟩ := h
  by_cases hs : ∃ x, d = .str x
  · obtain ⟨x, rfl⟩ := hs
    have hx : x.length ≤ 100 := of_decide_eq_true ok
    refine isi1 "str" "str" true rfl (by decide +kernel) ?_
    refine brF rfl ?_
    refine ⟨by omega, ?_⟩
    have bad : isNm (.str x) = false → Q (.d (.bl false)) μ := fun e => by rw [← e]; exact hq
    refine br (fun h1 => ?_) fun h1 => ?_
    · have h1 : (0 : Int) < (x.length : Int) := of_decide_eq_true h1
      refine br (fun h2 => ?_) fun h2 => ?_
      · refine brT rfl (bad ?_)
        have h2 : ¬ ((x.length : Int) < 9) := by simpa using h2
        have : ¬ (x.length ≤ 8) := by omega
        simp [isNm, this]
      · have h2 : (x.length : Int) < 9 := by simpa using h2
        refine ⟨by decide, _, _, _, rfl, rfl, rfl, ?_⟩
        refine br (fun h3 => ?_) fun h3 => ?_
        · refine bad ?_
          have h3 : inV (.str (mkS x)) resV = true := h3
          simp [isNm, h3]
        · have h3 : inV (.str (mkS x)) resV = false := h3
          refine ⟨signs_in x [] (by simp; omega) ?_⟩
          refine ⟨_, bools_map (fun c => decide (c ∈ small)) x, ?_⟩
          rw [all_map]
          have e : isNm (.str x) = x.all fun c => decide (c ∈ small) := by
            have a1 : 1 ≤ x.length := by omega
            have a2 : x.length ≤ 8 := by omega
            simp [isNm, h3, a1, a2]
          rw [e] at hq
          exact hq
    · refine brT rfl (brT rfl (bad ?_))
      have h1 : ¬ ((0 : Int) < (x.length : Int)) := of_decide_eq_false h1
      have : ¬ (1 ≤ x.length) := by omega
      simp [isNm, this]
  · obtain ⟨e, t, h1, h2⟩ := notStr ok fun x z => hs ⟨x, z⟩
    refine isi1 t "str" false h1 h2 ?_
    refine brT rfl (brT rfl ?_)
    rw [e] at hq
    exact hq

theorem ix_at {xs : List D} {j : Nat} {d : D} {Q : D → Prop} (e : xs[j]? = some d) (h : Q d) : oIx (.lst xs) (.int j) Q := by
  obtain ⟨hj, _⟩ := List.getElem?_eq_some_iff.mp e
  have e2 : atI xs (j : Int) = some d := by rw [ix_nat hj, ← e]; simp [hj]
  show match atI xs (j : Int) with
    | some d => Q d
    | none => False
  rw [e2]; exact h
theorem pure_bent (ws : List W) (μ : List O) (Q : W → List O → Prop) (E : Ex → List O → Prop) (h : sp_bent ws μ Q E) : wb__law_bent sp_law_any sp_law_draw { nx := fun st => Q (.d .non) st.μ, rt := Q, ex := fun x st => E x st.μ } ⟨startD 5 ws, μ⟩ := by
  obtain ⟨ds, b, r, rfl, rfl, ok, t, m, rfl, ht, hm, hq⟩ := h
  refine ⟨by omega, rfl, wFn_bag 0 [.int (t.length + 1)] b rfl rfl ok ⟨_, rfl, by omega, by omega, fun i i0 i1 b1 ok1 => ?_⟩⟩
  refine ⟨by omega, by decide, by simp; omega, rfl, wFn_bag 0 [.lst ((m.map fun c => D.str [c]) ++ [.str []])] b1 rfl rfl ok1 ⟨_, _, rfl, rfl, by simp, by simp; omega, fun j hj => ?_⟩⟩
  have ex : ∃ u : List Nat, ((m.map fun c => D.str [c]) ++ [.str []])[j]? = some (.str u) ∧ u.length ≤ 1 := by
    by_cases e : j < m.length
    · exact ⟨[m[j]], by rw [List.getElem?_append_left (by simpa using e)]; simp [e], by simp⟩
    · have e2 : j = m.length := by simp at hj; omega
      subst e2
      exact ⟨[], by simp, by simp⟩
  obtain ⟨u, eu, hu⟩ := ex
  refine ix_at eu fun b2 ok2 => ?_
  refine ⟨by omega, ?_⟩
  have c1 : ∀ hi, (cutD t none (some hi)).length ≤ t.length := fun hi => by unfold Dl.cutD; simp; omega
  have c2 : ∀ lo, (cutD t (some lo) none).length ≤ t.length := fun lo => by unfold Dl.cutD; simp; omega
  refine ⟨by have := c1 i; omega, ?_⟩
  refine ⟨rfl, wFn_bag 0 [.int 2] b2 rfl rfl ok2 ⟨_, rfl, by decide, by decide, fun d d0 d1 b3 ok3 => ?_⟩⟩
  refine ⟨by omega, ?_⟩
  refine ⟨by have := c1 i; have := c2 (i + d); simp; omega, ?_⟩
  refine hq _ (by have := c1 i; have := c2 (i + d); simp; omega) b3 ok3
theorem strsD_map : ∀ zs : List (List Nat), strsD (zs.map D.str) = some zs
  | [] => rfl
  | z :: zs => by
    rw [List.map_cons]
    unfold strsD
    rw [strsD_map zs]
theorem joinD_len : ∀ zs : List (List Nat), (∀ z ∈ zs, z.length = 1) → (joinD [] zs).length = zs.length ∧ (zs.map (·.length)).sum = zs.length
  | [], _ => ⟨rfl, rfl⟩
  | [p], h => by
    have := h p (by simp)
    exact ⟨by simp [joinD, this], by simp [this]⟩
  | p :: q :: r, h => by
    have h1 := h p (by simp)
    obtain ⟨e1, e2⟩ := joinD_len (q :: r) fun z hz => h z (by simp [hz])
    constructor
    · show (p ++ ([] ++ joinD [] (q :: r))).length = _
      rw [List.nil_append, List.length_append, e1, h1, List.length_cons (a := p)]; omega
    · rw [List.map_cons, List.sum_cons, e2, h1, List.length_cons (a := p)]; omega
theorem ixS_at {xs : List Nat} {j c : Nat} {Q : D → Prop} (hz : xs.length ≤ 16777216) (e : xs[j]? = some c) (h : Q (.str [c])) : oIx (.str xs) (.int j) Q := by
  obtain ⟨hj, _⟩ := List.getElem?_eq_some_iff.mp e
  have e2 : atI xs (j : Int) = some c := by rw [ix_nat hj, ← e]; simp [hj]
  refine ⟨hz, ?_⟩
  show match atI xs (j : Int) with
    | some c => Q (.str [c])
    | none => False
  rw [e2]; exact h
theorem pure_law (ws : List W) (μ : List O) (Q : W → List O → Prop) (E : Ex → List O → Prop) (h : sp_law ws μ Q E) : wb_law sp_law_any sp_bent sp_law_cells sp_law_draw sp_name (sp_like 3) sp_name { nx := fun st => Q (.d .non) st.μ, rt := Q, ex := fun x st => E x st.μ } ⟨startD 8 ws, μ⟩ := by
  obtain ⟨xs, rfl, rfl, hq⟩ := h
  refine ⟨rfl, wFn_cells xs rfl fun b ok => ?_⟩
  refine ⟨by decide, ?_⟩
  refine ⟨by decide, by decide, by decide, by decide, ?_⟩
  refine ⟨by decide, by decide, ?_⟩
  refine ⟨by decide, by decide, ?_⟩
  refine ⟨by decide, ⟨?_⟩⟩
  refine wForL_ind (fun rest st => ∃ ys u3 u4 b, st = ⟨[some (.scr xs), some (.loc 0), some (.d (.lst ys)), u3, u4, none, none, none], [b]⟩ ∧ BagOk b ∧ ys.all nmOk = true ∧ ys.length + 2 * rest.length ≤ 100) ?_ ?_ _ _ ⟨_, _, _, b, rfl, ok, rfl, by decide⟩
  · rintro st ⟨ys, u3, u4, b, rfl, ok, hy, -⟩
    refine ⟨?_⟩
    refine wForL_ind (fun rest st => ∃ u5 u6, st = ⟨[some (.scr xs), some (.loc 0), some (.d (.lst ys)), u3, u4, u5, u6, none], [b]⟩ ∧ rest.all nmOk = true) ?_ ?_ _ _ ⟨_, _, rfl, hy⟩
    · rintro st ⟨u5, u6, rfl, -⟩
      exact hq _
    · rintro x rest st ⟨u5, u6, rfl, hr⟩ K hK
      rw [List.all_cons, Bool.and_eq_true] at hr
      refine ⟨rfl, wFn_dat [x] rfl ⟨x, rfl, hr.1, ?_⟩⟩
      refine ⟨rfl, wFn_dat [x] rfl ⟨x, rfl, hr.1, ?_⟩⟩
      refine ⟨rfl, wFn_dat [x] rfl ⟨x, rfl, hr.1, ?_⟩⟩
      refine ⟨by simp, by simp, rfl, wFn_dat [.lst [.bl (isNm x), .bl (isNm x)], .lst [.bl (isNm x), .bl (isNm x)]] rfl ⟨_, rfl, rfl, ?_⟩⟩
      exact brF rfl (hK _ ⟨_, _, rfl, hr.2⟩)
  · rintro x rest st ⟨ys, u3, u4, b, rfl, ok, hy, hl⟩ K hK
    refine ⟨rfl, wFn_bag 0 [.int 9] b rfl rfl ok ⟨9, rfl, by decide, by decide, fun d d0 d1 b1 ok1 => ?_⟩⟩
    refine ⟨⟨by omega, by omega⟩, ⟨?_⟩⟩
    refine wLcL_ind (fun rest acc μ => ∃ (zs : List (List Nat)) (b : O), acc = zs.map D.str ∧ μ = [b] ∧ BagOk b ∧ (∀ z ∈ zs, z.length = 1) ∧ zs.length + rest.length ≤ 20) ?_ ?_ _ _ _ ⟨[], b1, rfl, rfl, ok1, by simp, by simp [rangeD]; omega⟩
    · rintro acc μ ⟨zs, b, rfl, rfl, ok, h1, hz⟩
      obtain ⟨e1, e2⟩ := joinD_len zs h1
      simp at hz
      refine ⟨zs, strsD_map zs, by rw [e2]; simp; omega, ?_⟩
      refine ⟨rfl, wFn_bag 0 [.str (joinD [] zs), .str [97, 98, 90, 49, 32]] b rfl rfl ok ⟨_, _, rfl, by omega, by decide, fun u hu b3 ok3 => ?_⟩⟩
      refine ⟨by simp, ?_⟩
      simp at hl
      refine ⟨by simp; omega, ?_⟩
      refine hK _ ⟨_, _, _, b3, rfl, ok3, ?_, by simp; omega⟩
      rw [List.all_append, hy]
      simp [nmOk]; omega
    · rintro y rest acc μ ⟨zs, b, rfl, rfl, ok, h1, hz⟩ K hK
      refine brT rfl ?_
      refine ⟨rfl, wFn_bag 0 [.str [110, 109, 107, 97, 98, 116, 104, 101, 105, 117, 120]] b rfl rfl ok ⟨_, 11, rfl, rfl, by decide, by decide, fun i hi => ?_⟩⟩
      refine ixS_at (by decide) (List.getElem?_eq_getElem hi) fun b2 ok2 => ?_
      simp at hz
      refine ⟨by simp; omega, ?_⟩
      refine hK _ _ ⟨zs ++ [[[110, 109, 107, 97, 98, 116, 104, 101, 105, 117, 120][i]]], b2, by simp, rfl, ok2, ?_, by simp; omega⟩
      intro z hzm
      rcases List.mem_append.mp hzm with q | q
      · exact h1 z q
      · rw [List.mem_singleton.mp q]; rfl
theorem law_hc (xs : List Int) (h : xs.length ≤ 63) : sp_law [.scr xs] [] (fun w _ => w = .d (.bl true)) (fun _ _ => False) := ⟨xs, rfl, rfl, fun _ => rfl⟩


section
variable {P : Program} {w : World} {K : PySem.W.Frag} {mg : Str → Option Value} {base : Heap}
theorem ok__law_draw (G : Gs K mg) : FnD P w K mg base "_law_draw" 1 2 sp_law_draw := fnD_of G.d__law_draw sc__law_draw (bd__law_draw G) (fun ws μ Q E _ h => pure_draw ws μ Q E h) (fun _ _ _ _ _ _ us hl => match us, hl with | [_, _], _ => rfl)
theorem ok__law_cells (G : Gs K mg) : FnD P w K mg base "_law_cells" 1 1 sp_law_cells := fnD_of G.d__law_cells sc__law_cells (bd__law_cells G) (fun ws μ Q E _ h => pure_cells ws μ Q E h) (fun _ _ _ _ _ _ us hl => match us, hl with | [_], _ => rfl)
theorem ok__law_any (G : Gs K mg) : FnD P w K mg base "_law_any" 2 2 sp_law_any := fnD_of G.d__law_any sc__law_any (bd__law_any G (Nat.le_refl 1) (ok__law_draw G)) (fun ws μ Q E _ h => pure_any ws μ Q E h) (fun _ _ _ _ _ _ us hl => match us, hl with | [_, _], _ => rfl)
theorem ok__law_like (G : Gs K mg) : ∀ j : Nat, FnD P w K mg base "_law_like" (j + 1) 2 (sp_like j)
  | 0 => fnD_of G.d__law_like sc__law_like (wb := wNever) (fun _ _ _ _ _ _ _ _ _ => pssd_never) (fun ws μ Q E _ ⟨ds, _, d, _, h, _⟩ => (by unfold plainD at h; cases h)) (fun _ _ _ _ _ _ us hl => match us, hl with | [_, _], _ => rfl)
  | j + 1 => fnD_of G.d__law_like sc__law_like (bd__law_like G (Nat.le_refl (j + 1)) (ok__law_like G j)) (fun ws μ Q E _ h => pure_like [] j ws μ Q E h) (fun _ _ _ _ _ _ us hl => match us, hl with | [_, _], _ => rfl)
theorem ok__law_is_name (G : Gs K mg) : FnD P w K mg base "_law_is_name" 1 1 sp_name := fnD_of G.d__law_is_name sc__law_is_name (bd__law_is_name G) (fun ws μ Q E _ h => pure_law_is_name ws μ Q E h) (fun _ _ _ _ _ _ us hl => match us, hl with | [_], _ => rfl)
theorem ok_is_name (G : Gs K mg) : FnD P w K mg base "is_name" 1 1 sp_name := fnD_of G.d_is_name sc_is_name (bd_is_name G) (fun ws μ Q E _ h => pure_is_name ws μ Q E h) (fun _ _ _ _ _ _ us hl => match us, hl with | [_], _ => rfl)
theorem okk_is_name (G : Gs K mg) : FnK P w K mg base "is_name" 1 1 0 ["value"] sp_name := fnK_of 0 ["value"] G.d_is_name sc_is_name (bd_is_name G) (fun ws μ Q E _ h => pure_is_name ws μ Q E h) (fun _ _ _ _ _ _ us ws h1 h2 => match us, ws, h1, h2 with | [], [_], _, _ => rfl)
theorem ok__law_bent (G : Gs K mg) : FnD P w K mg base "_law_bent" 3 3 sp_bent := fnD_of G.d__law_bent sc__law_bent (bd__law_bent G (Nat.le_refl 2) (ok__law_any G) (by decide) (ok__law_draw G)) (fun ws μ Q E _ h => pure_bent ws μ Q E h) (fun _ _ _ _ _ _ us hl => match us, hl with | [_, _, _], _ => rfl)
end
theorem law_at {w : World} {K : PySem.W.Frag} {mg : Str → Option Value} {fa : Addr} {h : Heap} (G : Gs K mg) (hfa : mg "law" = some (.ref fa)) : LamX.LawAtS Rw w K (L2.CX Rw.prog w) 5 63 "_law_script" mg fa h :=
  lawAt_of (N := [("_law_script" : Str), ("_law_bag" : Str), ("_law_some" : Str), ("_law_turn" : Str), ("_law_word" : Str), ("_law_value_z" : Str), ("_law_due" : Str), ("_law_k" : Str)]) (k := 4) (c := sp_law) G.d_law sc_law hfa (fun base _ _ => bd_law G (by decide) (ok__law_any G) (by decide) (ok__law_bent G) (by decide) (ok__law_cells G) (by decide) (ok__law_draw G) (by decide) (ok__law_is_name G) (by decide) (ok__law_like G 3) (by decide) (ok_is_name G) (okk_is_name G)) (fun ws μ Q E _ h => pure_law ws μ Q E h) law_hc (fun _ _ _ _ _ _ us hl => match us, hl with | [_], _ => rfl)

def D_is_name : He.DefD := ⟨("is_name", none), "is_name", "is_name", defArgs s_is_name, defBody s_is_name, defScope s_is_name, [], []⟩
def D__law_cells : He.DefD := ⟨("_law_cells", none), "_law_cells", "_law_cells", defArgs s__law_cells, defBody s__law_cells, defScope s__law_cells, [], []⟩
def D__law_draw : He.DefD := ⟨("_law_draw", none), "_law_draw", "_law_draw", defArgs s__law_draw, defBody s__law_draw, defScope s__law_draw, [], []⟩
def D__law_any : He.DefD := ⟨("_law_any", none), "_law_any", "_law_any", defArgs s__law_any, defBody s__law_any, defScope s__law_any, [], []⟩
def D__law_like : He.DefD := ⟨("_law_like", none), "_law_like", "_law_like", defArgs s__law_like, defBody s__law_like, defScope s__law_like, [], []⟩
def D__law_bent : He.DefD := ⟨("_law_bent", none), "_law_bent", "_law_bent", defArgs s__law_bent, defBody s__law_bent, defScope s__law_bent, [], []⟩
def D__law_is_name : He.DefD := ⟨("_law_is_name", none), "_law_is_name", "_law_is_name", defArgs s__law_is_name, defBody s__law_is_name, defScope s__law_is_name, [], []⟩
def D_law : He.DefD := ⟨("law", none), "law", "law", defArgs s_law, defBody s_law, defScope s_law, [], []⟩
def fn : List He.DefD := [D_is_name, D__law_cells, D__law_draw, D__law_any, D__law_like, D__law_bent, D__law_is_name, D_law]
def fa : List He.Fa := [.glo (PySem.Str.ofString "is_name"), .glo (PySem.Str.ofString "_law_cells"), .glo (PySem.Str.ofString "_law_draw"), .glo (PySem.Str.ofString "_law_any"), .glo (PySem.Str.ofString "_law_like"), .glo (PySem.Str.ofString "_law_bent"), .glo (PySem.Str.ofString "_law_is_name"), .glo (PySem.Str.ofString "law"), .glo (PySem.Str.ofString "RESERVED"), .int (PySem.Str.ofString "MOST_SIGNS") 8, .str (PySem.Str.ofString "SMALL") (mkS [97, 98, 99, 100, 101, 102, 103, 104, 105, 106, 107, 108, 109, 110, 111, 112, 113, 114, 115, 116, 117, 118, 119, 120, 121, 122]), .free (PySem.Str.ofString "len"), .free (PySem.Str.ofString "isinstance"), .free (PySem.Str.ofString "str"), .free (PySem.Str.ofString "all"), .free (PySem.Str.ofString "int"), .free (PySem.Str.ofString "list"), .free (PySem.Str.ofString "tuple"), .free (PySem.Str.ofString "zip"), .free (PySem.Str.ofString "bool"), .free (PySem.Str.ofString "range")]
def exB (K : PySem.W.Frag) : Bool := [He.tupB K "RESERVED" (List.map dvOf [.str [110], .str [109], .str [107], .str [116, 104, 101, 110], .str [109, 105, 120], .str [117, 110, 116, 105, 108]])].all id
theorem gs_of {K : PySem.W.Frag} {mg : Str → Option Value} {w : World} {h : Heap} (X : K.In h) (G : h.Ns mainGlobals mg) (c : He.SaysX fa fn [] [] exB w h K) : Gs K mg where
  d_is_name := df_of X G c.t.d (i := 0) (j := 0) rfl rfl
  d__law_cells := df_of X G c.t.d (i := 1) (j := 1) rfl rfl
  d__law_draw := df_of X G c.t.d (i := 2) (j := 2) rfl rfl
  d__law_any := df_of X G c.t.d (i := 3) (j := 3) rfl rfl
  d__law_like := df_of X G c.t.d (i := 4) (j := 4) rfl rfl
  d__law_bent := df_of X G c.t.d (i := 5) (j := 5) rfl rfl
  d__law_is_name := df_of X G c.t.d (i := 6) (j := 6) rfl rfl
  d_law := df_of X G c.t.d (i := 7) (j := 7) rfl rfl
  c_RESERVED := He.glo_ok X G (c.t.d.fact 8 rfl)
  t_RESERVED := (ex_at c.more 0 rfl)
  c_MOST_SIGNS := He.int_ok X G (c.t.d.fact 9 rfl)
  c_SMALL := He.str_ok X G (c.t.d.fact 10 rfl)
  fr_len := He.free_ok X G (c.t.d.fact 11 rfl)
  fr_isinstance := He.free_ok X G (c.t.d.fact 12 rfl)
  fr_str := He.free_ok X G (c.t.d.fact 13 rfl)
  fr_all := He.free_ok X G (c.t.d.fact 14 rfl)
  fr_int := He.free_ok X G (c.t.d.fact 15 rfl)
  fr_list := He.free_ok X G (c.t.d.fact 16 rfl)
  fr_tuple := He.free_ok X G (c.t.d.fact 17 rfl)
  fr_zip := He.free_ok X G (c.t.d.fact 18 rfl)
  fr_bool := He.free_ok X G (c.t.d.fact 19 rfl)
  fr_range := He.free_ok X G (c.t.d.fact 20 rfl)
  ans := ansW0_ok K
abbrev Ro : PySem.W.OpenRow := PySem.W.OpenLaw.row Rw
def ob (s : PySem.W.SharedT) : He.AlX := He.obsX 4 fa fn [] [] exB (HandSHeadRun.getT s)
theorem ob_eq (s : PySem.W.SharedT) : ob s = (He.hookX 4 fa fn [] [] exB).obs s.abs := He.obsX_eq (HandSHeadRun.getT_eq s)
def names : List PySem.Str := [(PySem.Str.ofString "SMALL"), (PySem.Str.ofString "RESERVED"), (PySem.Str.ofString "MOST_SIGNS"), (PySem.Str.ofString "is_name"), (PySem.Str.ofString "_law_cells"), (PySem.Str.ofString "_law_draw"), (PySem.Str.ofString "_law_any"), (PySem.Str.ofString "_law_like"), (PySem.Str.ofString "_law_bent"), (PySem.Str.ofString "_law_is_name")]
theorem run (w : World) : HandSHeadRun.RunEq Ro (PySem.W.view Ro.prog [12]) (He.hookX 4 fa fn [] [] exB) ob 5000 names w := by
  intro os
  kernel_rfl
end Lk30
open PySem PySem.W PySem.Calls PyProof.Rows
theorem PySem.Challenge.cw_overscrawl_k30_names_recognized_holds : PySem.Challenge.rw_overscrawl_k30_names_recognized.Holds := by
  w_on; o_law
  refine HandSHeadRun.head_any (r := OpenLaw.row PySem.Challenge.rw_overscrawl_k30_names_recognized) (q := view (OpenLaw.row PySem.Challenge.rw_overscrawl_k30_names_recognized).prog [12]) (H := He.hookX 4 Lk30.fa Lk30.fn [] [] Lk30.exB) (ob := Lk30.ob) (M := 5000) (loose := Lk30.names) (d := HandSHeadRun.topDef (OpenLaw.row PySem.Challenge.rw_overscrawl_k30_names_recognized).prog 12) (kwd := []) Lk30.ob_eq
    (by kernel_rfl) (fun s => by kernel_rfl) Lk30.run (by kernel_rfl) (by kernel_rfl) (by kernel_rfl) (by rfl) (by first | assumption | decide +kernel) (by decide +kernel) ⟨rfl, rfl, rfl, rfl, rfl, by decide +kernel⟩ ?hw ?hc
  case hw => w_witness2
  case hc =>
    refine LamX.walk_ofTsE (l := PySem.Challenge.rw_overscrawl_k30_names_recognized) (n := 63) (k := 5) (x := "_law_script") (CX := fun w => L2.CX (PySem.Challenge.rw_overscrawl_k30_names_recognized).prog w) rfl (by decide) (by kernel_rfl) ⟨rfl, by decide, by decide⟩ ?F (fun w H s e s' z => Dl.cx_no _ _ H s e s' z)
    intro w mg fa h Y G hmg0
    obtain ⟨K, KX, c⟩ := Y
    have hmg : mg ("law" : PySem.Str) = some (.ref fa) := by
      have e : (HandSHeadRun.topDef (OpenLaw.row PySem.Challenge.rw_overscrawl_k30_names_recognized).prog 12).name = ("law" : PySem.Str) := by kernel_rfl
      rw [← e]
      exact hmg0
    exact ⟨K, KX, Lk30.law_at (Lk30.gs_of KX G c) hmg⟩
