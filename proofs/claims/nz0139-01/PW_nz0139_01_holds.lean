import PyProof.Rows.All
import Wide.All
import OpenK.AllK
import Wide.FinOn
import Lean
import PySem.Challenge.RW_nz0139_01
set_option Elab.async false
set_option maxRecDepth 100000
set_option linter.unusedVariables false
/- part MA -/
namespace Mine
open PySem PySem.W PySem.Calls

noncomputable abbrev PG : Program := PySem.Challenge.pw_nz0139_01

/-- values of the program, by value; a dict by its address -/
inductive MV where
  | none
  | bool (b : Bool)
  | int (i : Int)
  | str (s : Str)
  | tup (l : List MV)
  | lst (l : List MV)
  | set (l : List Nat)
  | dict (a : Addr)
  | rng (a b : Int)
  | inst (names : List MV)
  | slc (l u s : MV)
  | typ (T : String)

noncomputable abbrev tupO (vs : List Value) (n : Nat := 0) : Obj := { cls := .type "tuple", data := .seq vs.toArray n }
noncomputable abbrev lstO (vs : List Value) (n : Nat := 0) : Obj := { cls := .type "list", data := .seq vs.toArray n }
noncomputable def setEs (l : List Nat) (ts : Nat → Tok) : Array (Int × Value) := (l.map fun (i : Nat) => ((i : Int), Value.int (i : Int) (ts i))).toArray
noncomputable def setTb (l : List Nat) (mask finger moves : Nat) (led : Bool) : SetTable := { mask, place := l.toArray, dummies := #[], finger, led, moves, plain := true }
noncomputable abbrev setO (l : List Nat) (ts : Nat → Tok) (ep mask finger moves : Nat) (led : Bool) : Obj :=
  { cls := .type "set", data := .set (setEs l ts) ep (setTb l mask finger moves led) }

noncomputable abbrev Gh := Addr → Option Obj
/-- the class StepChecker; whether sets are walked in the text's order -/
structure Cx where
  cl : Addr
  txt : Bool
noncomputable def subsOf : List Nat → List (List Nat)
  | [] => [[]]
  | x :: r => (subsOf r).map (x :: ·) ++ subsOf r
/-- the sets that come up -/
noncomputable def subs : List (List Nat) := subsOf [1, 2, 3, 4, 5]

mutual
/-- v stands for the value m, all its objects among g; C the class StepChecker -/
noncomputable def RepV (C : Cx) (g : Gh) : MV → Value → Prop
  | .none, v => v = .none
  | .bool b, v => v = .bool b
  | .int i, v => ∃ t, v = .int i t
  | .str s, v => ∃ t, v = .str s t
  | .tup l, v => ∃ a vs n, v = .ref a ∧ g a = some (tupO vs n) ∧ RepL C g l vs
  | .lst l, v => ∃ a vs n, v = .ref a ∧ g a = some (lstO vs n) ∧ RepL C g l vs
  | .set l, v => ∃ a ts ep mask finger moves led, v = .ref a ∧ g a = some (setO l ts ep mask finger moves led) ∧ (mask = 7 ∨ mask = 15 ∨ mask = 31) ∧ (C.txt = false → led = true) ∧ l ∈ subs
  | .dict a, v => v = .ref a
  | .rng x y, v => ∃ a t u z, v = .ref a ∧ g a = some { cls := .type "range", data := .fields #[.int x t, .int y u, .int 1 z] }
  | .inst l, v => ∃ a d es n b vs k, v = .ref a ∧ g a = some (instObj C.cl d) ∧ g d = some (dictOf es n) ∧ getL "names" es = some (some (.ref b)) ∧
      (getL "is_clause" es = some none ∧ getL "resolve_fault" es = some none ∧ getL "fault_of" es = some none) ∧ g b = some (lstO vs k) ∧ RepL C g l vs
  | .typ T, v => v = .type T
  | .slc l u s, v => ∃ a vl vu vs, v = .ref a ∧ g a = some { cls := .type "slice", data := .fields #[vl, vu, vs] } ∧ RepV C g l vl ∧ RepV C g u vu ∧ RepV C g s vs
noncomputable def RepL (C : Cx) (g : Gh) : List MV → List Value → Prop
  | [], vs => vs = []
  | m :: l, vs => ∃ v r, vs = v :: r ∧ RepV C g m v ∧ RepL C g l r
end

mutual
theorem RepV.mono {C : Cx} {g g' : Gh} (h : ∀ a o, g a = some o → g' a = some o) : ∀ (m : MV) {v : Value}, RepV C g m v → RepV C g' m v
  | .none, _, r => r
  | .bool _, _, r => r
  | .int _, _, r => r
  | .str _, _, r => r
  | .tup l, _, r => by obtain ⟨a, vs, n, e, x, y⟩ := r; exact ⟨a, vs, n, e, h _ _ x, RepL.mono h l y⟩
  | .lst l, _, r => by obtain ⟨a, vs, n, e, x, y⟩ := r; exact ⟨a, vs, n, e, h _ _ x, RepL.mono h l y⟩
  | .set _, _, r => by obtain ⟨a, ts, ep, mask, f, mv, led, e, x, y⟩ := r; exact ⟨a, ts, ep, mask, f, mv, led, e, h _ _ x, y⟩
  | .dict _, _, r => r
  | .rng _ _, _, r => by obtain ⟨a, t, u, z, e, x⟩ := r; exact ⟨a, t, u, z, e, h _ _ x⟩
  | .inst l, _, r => by obtain ⟨a, d, es, n, b, vs, k, e, x1, x2, x3, x4, x5, y⟩ := r; exact ⟨a, d, es, n, b, vs, k, e, h _ _ x1, h _ _ x2, x3, x4, h _ _ x5, RepL.mono h l y⟩
  | .typ _, _, r => r
  | .slc l u s, _, r => by obtain ⟨a, vl, vu, vs, e, x, y1, y2, y3⟩ := r; exact ⟨a, vl, vu, vs, e, h _ _ x, RepV.mono h l y1, RepV.mono h u y2, RepV.mono h s y3⟩
theorem RepL.mono {C : Cx} {g g' : Gh} (h : ∀ a o, g a = some o → g' a = some o) : ∀ (l : List MV) {vs : List Value}, RepL C g l vs → RepL C g' l vs
  | [], _, r => r
  | m :: l, _, ⟨v, r, e, x, y⟩ => ⟨v, r, e, RepV.mono h m x, RepL.mono h l y⟩
end

theorem RepL.length {C : Cx} {g : Gh} : ∀ {l : List MV} {vs : List Value}, RepL C g l vs → vs.length = l.length
  | [], _, h => by cases h; rfl
  | _ :: l, _, ⟨_, _, e, _, y⟩ => by subst e; simp [RepL.length y]
theorem RepL.get {C : Cx} {g : Gh} : ∀ {l : List MV} {vs : List Value}, RepL C g l vs → ∀ {i : Nat} {m : MV}, l[i]? = some m → ∃ v, vs[i]? = some v ∧ RepV C g m v
  | [], _, _, i, m, e => by simp at e
  | _ :: l, _, ⟨v, r, e, x, y⟩, 0, m, h => by subst e; simp at h; subst h; exact ⟨v, rfl, x⟩
  | _ :: l, _, ⟨v, r, e, x, y⟩, i + 1, m, h => by subst e; simp at h; simpa using RepL.get y h
theorem RepL.get' {C : Cx} {g : Gh} : ∀ {l : List MV} {vs : List Value}, RepL C g l vs → ∀ {i : Nat} {v : Value}, vs[i]? = some v → ∃ m, l[i]? = some m ∧ RepV C g m v
  | [], _, e, i, v, h => by cases e; simp at h
  | m :: l, _, ⟨u, r, e, x, y⟩, 0, v, h => by subst e; simp at h; subst h; exact ⟨m, rfl, x⟩
  | _ :: l, _, ⟨u, r, e, x, y⟩, i + 1, v, h => by subst e; simp at h; simpa using RepL.get' y h
theorem RepL.append {C : Cx} {g : Gh} : ∀ {l l' : List MV} {vs vs' : List Value}, RepL C g l vs → RepL C g l' vs' → RepL C g (l ++ l') (vs ++ vs')
  | [], _, _, _, h, k => by cases h; exact k
  | _ :: l, _, _, _, ⟨v, r, e, x, y⟩, k => by subst e; exact ⟨v, r ++ _, rfl, x, RepL.append y k⟩
theorem RepL.one {C : Cx} {g : Gh} {m : MV} {v : Value} (h : RepV C g m v) : RepL C g [m] [v] := ⟨v, [], rfl, h, rfl⟩
theorem RepL.cons {C : Cx} {g : Gh} {m : MV} {v : Value} {l : List MV} {vs : List Value} (h : RepV C g m v) (k : RepL C g l vs) : RepL C g (m :: l) (v :: vs) := ⟨v, vs, rfl, h, k⟩
theorem RepL.of_get {C : Cx} {g : Gh} : ∀ {l : List MV} {vs : List Value}, vs.length = l.length → (∀ (i : Nat) (m : MV) (v : Value), l[i]? = some m → vs[i]? = some v → RepV C g m v) → RepL C g l vs
  | [], vs, h, _ => by cases vs; rfl; simp at h
  | m :: l, [], h, _ => by simp at h
  | m :: l, v :: vs, h, k => ⟨v, vs, rfl, k 0 m v rfl rfl, RepL.of_get (by simpa using h) fun i m v a b => k (i + 1) m v (by simpa using a) (by simpa using b)⟩

/-- what is fixed in the whole proof -/
structure Bs where
  w : World
  s0 : Shared
  hb : Heap
  K : Frag
  KX : K.In hb
  p : Program
  loose : List Str
  mg : Str → Option Value
  mb : Str → Option Value
  T : TopRead p loose mg mb hb
  C : Cx
  txt : w.params.followText "set-order" = C.txt

noncomputable abbrev Bs.M (B : Bs) : Model := model PG B.w
noncomputable abbrev St (B : Bs) (h : Heap) (tk : Nat) : Shared := { B.s0 with heap := h, toks := tk }

/-- a world: what is told of the heap (g, never changed), the heap -/
structure Wd (B : Bs) where
  g : Gh
  h : Heap
  sub : ∀ a o, g a = some o → h.get? a = some o
  base : ∀ a o, B.hb.get? a = some o → g a = some o

structure Le {B : Bs} (D : List Addr) (X X' : Wd B) : Prop where
  live : ∀ a o, X.h.get? a = some o → ∃ o', X'.h.get? a = some o'
  keep : ∀ a o, X.h.get? a = some o → a ∉ D → X'.h.get? a = some o
  gh : ∀ a o, X.h.get? a = some o → X'.g a = X.g a

section
variable {B : Bs}
theorem no_at_size (h : Heap) : h.get? h.objs.size = none := by
  cases e : h.get? h.objs.size with
  | none => rfl
  | some o => exact absurd (Heap.lt_size e) (Nat.lt_irrefl _)
theorem Wd.gsize (X : Wd B) : X.g X.h.objs.size = none := by
  cases e : X.g X.h.objs.size with
  | none => rfl
  | some o => have := X.sub _ _ e; rw [no_at_size] at this; cases this
theorem Wd.inK (X : Wd B) : B.K.In X.h := fun a o e => X.sub _ _ (X.base _ _ (B.KX a o e))
theorem Wd.keepsB (X : Wd B) : ∀ a o, B.hb.get? a = some o → X.h.get? a = some o := fun a o e => X.sub _ _ (X.base _ _ e)
theorem Le.refl (D : List Addr) (X : Wd B) : Le D X X := ⟨fun _ o e => ⟨o, e⟩, fun _ _ e _ => e, fun _ _ _ => rfl⟩
theorem Le.g {D : List Addr} {X X' : Wd B} (l : Le D X X') : ∀ a o, X.g a = some o → X'.g a = some o := fun a o e => (l.gh a o (X.sub _ _ e)).trans e
theorem Le.repV {D : List Addr} {X X' : Wd B} (l : Le D X X') {m : MV} {v : Value} (r : RepV B.C X.g m v) : RepV B.C X'.g m v := RepV.mono l.g m r
theorem Le.repL {D : List Addr} {X X' : Wd B} (l : Le D X X') {m : List MV} {v : List Value} (r : RepL B.C X.g m v) : RepL B.C X'.g m v := RepL.mono l.g m r
theorem Le.trans {D D' : List Addr} {X Y Z : Wd B} (l : Le D X Y) (k : Le D' Y Z) (hD : ∀ a ∈ D', a ∈ D ∨ X.h.get? a = none) : Le D X Z :=
  ⟨fun a o e => let ⟨o', e'⟩ := l.live a o e; k.live a o' e', fun a o e n => k.keep a o (l.keep a o e n) (fun m => (hD a m).elim n fun q => by rw [q] at e; cases e), fun a o e => let ⟨o', e'⟩ := l.live a o e; (k.gh a o' e').trans (l.gh a o e)⟩
theorem Le.weak {D D' : List Addr} {X Y : Wd B} (l : Le D X Y) (hD : ∀ a ∈ D, a ∈ D' ∨ X.h.get? a = none) : Le D' X Y :=
  ⟨l.live, fun a o e n => l.keep a o e (fun m => (hD a m).elim n fun q => by rw [q] at e; cases e), l.gh⟩
theorem Le.mono {D D' : List Addr} {X Y : Wd B} (l : Le D X Y) (hD : ∀ a ∈ D, a ∈ D') : Le D' X Y := l.weak fun a h => .inl (hD a h)

/-- a new object that never changes -/
noncomputable def Wd.push (X : Wd B) (o : Obj) (hf : o.isFreed = false := by rfl) : Wd B where
  g := fun a => if a = X.h.objs.size then some o else X.g a
  h := X.h.push o
  sub := fun a x e => by
    by_cases q : a = X.h.objs.size
    · subst q; rw [if_pos rfl] at e; cases e; exact Heap.get?_push_size _ hf
    · rw [if_neg q] at e; exact Heap.get?_push_of_some _ (X.sub a x e)
  base := fun a x e => by
    have := X.base a x e
    rw [if_neg (Nat.ne_of_lt (Heap.lt_size (X.sub _ _ this)))]; exact this
theorem Wd.push_le (X : Wd B) (o : Obj) (hf : o.isFreed = false := by rfl) (D : List Addr := []) : Le D X (X.push o hf) :=
  ⟨fun a x e => ⟨x, Heap.get?_push_of_some _ e⟩, fun a x e _ => Heap.get?_push_of_some _ e, fun a x e => if_neg (Nat.ne_of_lt (Heap.lt_size e))⟩
theorem Wd.push_at (X : Wd B) (o : Obj) (hf : o.isFreed = false := by rfl) : (X.push o hf).g X.h.objs.size = some o := if_pos rfl
/-- another heap over the same g -/
noncomputable def Wd.to (X : Wd B) (h' : Heap) (D : List Addr) (hk : ∀ a o, X.h.get? a = some o → a ∉ D → h'.get? a = some o) (hD : ∀ a ∈ D, X.g a = none) : Wd B where
  g := X.g
  h := h'
  sub := fun a o e => hk a o (X.sub a o e) fun m => by rw [hD a m] at e; cases e
  base := X.base
theorem Wd.to_le (X : Wd B) {h' : Heap} {D : List Addr} {hk hD} (hs : ∀ a ∈ D, ∀ o, X.h.get? a = some o → ∃ o', h'.get? a = some o') : Le D X (X.to h' D hk hD) :=
  ⟨fun a o e => by
    by_cases q : a ∈ D
    · exact hs a q o e
    · exact ⟨o, hk a o e q⟩, hk, fun _ _ _ => rfl⟩
/-- a heap that keeps all -/
noncomputable def Wd.more (X : Wd B) (h' : Heap) (hk : ∀ a o, X.h.get? a = some o → h'.get? a = some o) : Wd B where
  g := X.g
  h := h'
  sub := fun a o e => hk a o (X.sub a o e)
  base := X.base
theorem Wd.more_le (X : Wd B) {h' : Heap} {hk} (D : List Addr := []) : Le D X (X.more h' hk) := ⟨fun a o e => ⟨o, hk a o e⟩, fun a o e _ => hk a o e, fun _ _ _ => rfl⟩
/-- from now on a's object stays -/
noncomputable def Wd.fix (X : Wd B) (a : Addr) (o : Obj) (e : X.h.get? a = some o) (n : X.g a = none) : Wd B where
  g := fun b => if b = a then some o else X.g b
  h := X.h
  sub := fun b x q => by
    by_cases z : b = a
    · subst z; rw [if_pos rfl] at q; cases q; exact e
    · rw [if_neg z] at q; exact X.sub b x q
  base := fun b x q => by
    have := X.base b x q
    rw [if_neg (fun z => by rw [z, n] at this; cases this)]; exact this
theorem Wd.fix_g (X : Wd B) {a : Addr} {o : Obj} {e : X.h.get? a = some o} {n : X.g a = none} : ∀ b x, X.g b = some x → (X.fix a o e n).g b = some x :=
  fun b x q => by
    show (if b = a then some o else X.g b) = some x
    rw [if_neg (fun z => by rw [z, n] at q; cases q)]; exact q
theorem Wd.fix_at (X : Wd B) {a : Addr} {o : Obj} {e : X.h.get? a = some o} {n : X.g a = none} : (X.fix a o e n).g a = some o := if_pos rfl
theorem Le.fix {D : List Addr} {X Y : Wd B} (l : Le D X Y) {a : Addr} {o : Obj} {e : Y.h.get? a = some o} {n : Y.g a = none} (h : X.h.get? a = none) : Le D X (Y.fix a o e n) :=
  ⟨l.live, l.keep, fun b x q => (if_neg (fun (z : b = a) => by rw [z, h] at q; cases q)).trans (l.gh b x q)⟩
end

/-- what is to hold behind a run from X -/
noncomputable abbrev RnP {α : Type} (B : Bs) (D : List Addr) (X : Wd B) (post : α → Wd B → Prop) : α → Shared → Prop := fun a s' => ∃ X' tk', s' = St B X'.h tk' ∧ Le D X X' ∧ post a X'
/-- running t from X: it ends, without an exception, in a world above, D alone changed -/
noncomputable def Rn {α : Type} (B : Bs) (A : Around) (D : List Addr) (t : Sem α) (X : Wd B) (post : α → Wd B → Prop) : Prop :=
  ∀ tk, wpAny B.M A t (RnP B D X post) (fun _ _ => False) (St B X.h tk)

section
variable {B : Bs} {A : Around} {D : List Addr} {α β : Type} {X : Wd B}
theorem Rn.mono {t : Sem α} {post post' : α → Wd B → Prop} (h : Rn B A D t X post) (k : ∀ a Y, Le D X Y → post a Y → post' a Y) : Rn B A D t X post' :=
  fun tk => wpAny_mono (h tk) (fun _ _ ⟨X', tk', e, l, p⟩ => ⟨X', tk', e, l, k _ _ l p⟩) fun _ _ f => f
theorem Rn.weak {D' : List Addr} {t : Sem α} {post : α → Wd B → Prop} (h : Rn B A D' t X post) (hD : ∀ a ∈ D', a ∈ D ∨ X.h.get? a = none) : Rn B A D t X post :=
  fun tk => wpAny_mono (h tk) (fun _ _ ⟨X', tk', e, l, p⟩ => ⟨X', tk', e, l.weak hD, p⟩) fun _ _ f => f
theorem Rn.pure {a : α} {post : α → Wd B → Prop} (h : post a X) : Rn B A D (pure a) X post := fun tk => wpAny_pure ⟨X, tk, rfl, Le.refl _ _, h⟩
/-- into a library rule: the end of t is what comes -/
theorem Rn.into {t : Sem α} {post : α → Wd B → Prop} {Q : α → Shared → Prop} {E : Value → Shared → Prop} {tk : Nat} (h : Rn B A D t X post)
    (k : ∀ a Y tk', Le D X Y → post a Y → Q a (St B Y.h tk')) : wpAny B.M A t Q E (St B X.h tk) :=
  wpAny_mono (h tk) (fun _ _ ⟨Y, tk', e, l, p⟩ => by subst e; exact k _ _ _ l p) fun _ _ f => f.elim
end
end Mine

/- part MB -/
namespace Mine
open PySem PySem.W PySem.Calls

/-- what a dict holds -/
inductive DC where
  | ints (l : List (Int × MV))
  | strs (l : List (Str × MV))

noncomputable def RepKV {K : Type} (C : Cx) (g : Gh) : List (K × MV) → List (K × Value) → Prop
  | [], kvs => kvs = []
  | (k, m) :: l, kvs => ∃ v r, kvs = (k, v) :: r ∧ RepV C g m v ∧ RepKV C g l r

noncomputable def atM {K : Type} [DecidableEq K] (l : List (K × MV)) (k : K) : Option MV := (l.find? fun kv => kv.1 = k).map (·.2)
noncomputable def storedM {K : Type} [DecidableEq K] (l : List (K × MV)) (k : K) (m : MV) : List (K × MV) :=
  if l.any (fun kv => kv.1 = k) then l.map (fun kv => if kv.1 = k then (kv.1, m) else kv) else l ++ [(k, m)]
noncomputable def withoutM {K : Type} [DecidableEq K] (l : List (K × MV)) (k : K) : List (K × MV) := l.filter fun kv => decide (kv.1 ≠ k)

section
variable {K : Type} {C : Cx} {g g' : Gh}
theorem RepKV.mono (h : ∀ a o, g a = some o → g' a = some o) : ∀ {l : List (K × MV)} {kvs : List (K × Value)}, RepKV C g l kvs → RepKV C g' l kvs
  | [], _, r => r
  | (_, m) :: l, _, ⟨v, r, e, x, y⟩ => ⟨v, r, e, RepV.mono h m x, RepKV.mono h y⟩
theorem RepKV.length : ∀ {l : List (K × MV)} {kvs : List (K × Value)}, RepKV C g l kvs → kvs.length = l.length
  | [], _, r => by cases r; rfl
  | (_, m) :: l, _, ⟨v, r, e, x, y⟩ => by subst e; simp [RepKV.length y]
theorem RepKV.keys : ∀ {l : List (K × MV)} {kvs : List (K × Value)}, RepKV C g l kvs → kvs.map (·.1) = l.map (·.1)
  | [], _, r => by cases r; rfl
  | (_, m) :: l, _, ⟨v, r, e, x, y⟩ => by subst e; simp [RepKV.keys y]
theorem RepKV.append : ∀ {l l' : List (K × MV)} {kvs kvs' : List (K × Value)}, RepKV C g l kvs → RepKV C g l' kvs' → RepKV C g (l ++ l') (kvs ++ kvs')
  | [], _, _, _, r, q => by cases r; exact q
  | (_, m) :: l, _, _, _, ⟨v, r, e, x, y⟩, q => by subst e; exact ⟨v, _, rfl, x, RepKV.append y q⟩
variable [DecidableEq K]
theorem RepKV.none_ : ∀ {l : List (K × MV)} {kvs : List (K × Value)}, RepKV C g l kvs → ∀ {k : K}, atM l k = none → valueAt kvs k = none
  | [], _, r, k, _ => by cases r; rfl
  | (k', m) :: l, _, ⟨v, r, e, x, y⟩, k, h => by
    subst e
    by_cases q : k' = k
    · subst q; simp [atM] at h
    · have h' : atM l k = none := by simpa [atM, List.find?_cons, q] using h
      have := RepKV.none_ y h'
      simpa [valueAt, List.find?_cons, q] using this
theorem RepKV.some_ : ∀ {l : List (K × MV)} {kvs : List (K × Value)}, RepKV C g l kvs → ∀ {k : K} {m : MV}, atM l k = some m → ∃ v, valueAt kvs k = some v ∧ RepV C g m v
  | [], _, r, k, m, h => by simp [atM] at h
  | (k', m') :: l, _, ⟨v, r, e, x, y⟩, k, m, h => by
    subst e
    by_cases q : k' = k
    · subst q
      have : m' = m := by simpa [atM] using h
      subst this
      exact ⟨v, by simp [valueAt], x⟩
    · have h' : atM l k = some m := by simpa [atM, List.find?_cons, q] using h
      obtain ⟨u, hu, hr⟩ := RepKV.some_ y h'
      exact ⟨u, by simpa [valueAt, List.find?_cons, q] using hu, hr⟩
theorem RepKV.mapStore {k : K} {m : MV} {v : Value} (hv : RepV C g m v) : ∀ {l : List (K × MV)} {kvs : List (K × Value)}, RepKV C g l kvs →
    RepKV C g (l.map fun kv => if kv.1 = k then (kv.1, m) else kv) (kvs.map fun kv => if kv.1 = k then (kv.1, v) else kv)
  | [], _, r => by cases r; rfl
  | (k', m') :: l, _, ⟨u, r, e, x, y⟩ => by
    subst e
    simp only [List.map_cons]
    by_cases q : k' = k
    · subst q; simp only [if_true]; exact ⟨v, _, rfl, hv, RepKV.mapStore hv y⟩
    · simp only [if_neg q]; exact ⟨u, _, rfl, x, RepKV.mapStore hv y⟩
theorem RepKV.anyKey {k : K} : ∀ {l : List (K × MV)} {kvs : List (K × Value)}, RepKV C g l kvs → (kvs.any fun kv => decide (kv.1 = k)) = l.any fun kv => decide (kv.1 = k)
  | [], _, r => by cases r; rfl
  | (k', m') :: l, _, ⟨u, r, e, x, y⟩ => by subst e; simp [RepKV.anyKey y]
theorem RepKV.store {k : K} {m : MV} {v : Value} (hv : RepV C g m v) {l : List (K × MV)} {kvs : List (K × Value)} (r : RepKV C g l kvs) : RepKV C g (storedM l k m) (stored kvs k v) := by
  unfold storedM stored
  rw [r.anyKey]
  split
  · exact RepKV.mapStore hv r
  · exact RepKV.append r ⟨v, [], rfl, hv, rfl⟩
theorem RepKV.drop {k : K} : ∀ {l : List (K × MV)} {kvs : List (K × Value)}, RepKV C g l kvs → RepKV C g (withoutM l k) (without kvs k)
  | [], _, r => by cases r; rfl
  | (k', m') :: l, _, ⟨u, r, e, x, y⟩ => by
    subst e
    unfold withoutM without
    by_cases q : k' = k
    · subst q; simp only [List.filter_cons, ne_eq, not_true_eq_false, decide_false, Bool.false_eq_true, if_false]; exact RepKV.drop y
    · simp only [List.filter_cons, ne_eq, q, not_false_eq_true, decide_true, if_true]
      exact ⟨u, _, rfl, x, RepKV.drop y⟩
end

noncomputable def DictAt (B : Bs) (X : Wd B) (a : Addr) : DC → Prop
  | .ints l => ∃ kvs, X.h.DictOf (intKind PG B.w) a kvs ∧ RepKV B.C X.g l kvs
  | .strs l => ∃ kvs, X.h.DictOf (PySem.strKind PG B.w) a kvs ∧ RepKV B.C X.g l kvs

noncomputable abbrev Ds := List (Addr × DC)
noncomputable abbrev dom (δ : Ds) : List Addr := δ.map (·.1)

structure DictsAt {B : Bs} (δ : Ds) (X : Wd B) : Prop where
  at_ : ∀ p ∈ δ, DictAt B X p.1 p.2 ∧ X.g p.1 = none ∧ (p.1 == sysModules) = false
  nodup : (dom δ).Nodup

noncomputable def NewDom {B : Bs} (X : Wd B) (δ δ' : Ds) : Prop := ∀ a ∈ dom δ', a ∈ dom δ ∨ X.h.get? a = none

section
variable {B : Bs} {X Y : Wd B} {δ δ' : Ds}
theorem NewDom.refl (X : Wd B) (δ : Ds) : NewDom X δ δ := fun _ h => .inl h
theorem NewDom.trans {δ'' : Ds} {D : List Addr} (l : Le D X Y) (a : NewDom X δ δ') (b : NewDom Y δ' δ'') : NewDom X δ δ'' := fun x h => by
  rcases b x h with q | q
  · exact a x q
  · refine .inr ?_
    cases e : X.h.get? x with
    | none => rfl
    | some o => obtain ⟨o', e'⟩ := l.live x o e; rw [q] at e'; cases e'
theorem DictAt.some_ {a : Addr} {d : DC} (h : DictAt B X a d) : ∃ o, X.h.get? a = some o := by
  cases d <;> (obtain ⟨kvs, ⟨o, _, _, ho, _⟩, _⟩ := h; exact ⟨o, ho⟩)
theorem DictAt.next {D : List Addr} (l : Le D X Y) {a : Addr} {d : DC} (h : DictAt B X a d) (n : a ∉ D) : DictAt B Y a d := by
  cases d <;> (obtain ⟨kvs, ⟨o, es, ep, ho, r⟩, q⟩ := h; exact ⟨kvs, ⟨o, es, ep, l.keep _ _ ho n, r⟩, q.mono l.g⟩)
theorem DictsAt.next {D : List Addr} (l : Le D X Y) (h : DictsAt δ X) (n : ∀ a ∈ dom δ, a ∉ D) : DictsAt δ Y :=
  ⟨fun p hp => ⟨(h.at_ p hp).1.next l (n _ (List.mem_map_of_mem hp)), (let ⟨_, e⟩ := (h.at_ p hp).1.some_; (l.gh _ _ e).trans (h.at_ p hp).2.1), (h.at_ p hp).2.2⟩, h.nodup⟩
theorem DictsAt.here (l : Le [] X Y) (h : DictsAt δ X) : DictsAt δ Y := h.next l fun _ _ => List.not_mem_nil
end

/-- where the frame keeps x -/
noncomputable def VarAt (env : Env) (h : Heap) (x : Str) (v : Value) : Prop :=
  (env.kindOf x = some .local ∧ ∃ m, h.Ns env.locals m ∧ m x = some v) ∨
  ((env.kindOf x = some .cell ∨ env.kindOf x = some .free) ∧ ∃ c, env.cells.lookup x = some c ∧ h.IsCell c (some v))

noncomputable abbrev Vs := List (Str × MV)

structure Inv {B : Bs} (env : Env) (ρ : Vs) (δ : Ds) (X : Wd B) : Prop where
  vars : ∀ x m, ρ.lookup x = some m → ∃ v, VarAt env X.h x v ∧ RepV B.C X.g m v
  loc : env.locals ∉ dom δ ∧ X.g env.locals = none ∧ ∃ m, X.h.Ns env.locals m
  cells : ∀ x c, env.cells.lookup x = some c → X.g c = none ∧ c ∉ dom δ ∧ ∃ v, X.h.IsCell c v
  dicts : DictsAt δ X

/-- what an env of this program's is -/
structure EnvOk (env : Env) : Prop where
  kind : env.scope.kind = .function
  glob : env.globals = mainGlobals
  bltn : env.builtins = builtinsNs
  apart : ∀ x y c, env.cells.lookup x = some c → env.cells.lookup y = some c → x = y
  nodup : (env.cells.map (·.1)).Nodup

section
variable {B : Bs} {env : Env} {ρ : Vs} {δ δ' : Ds} {X Y : Wd B}
theorem VarAt.keep {h h' : Heap} {x : Str} {v : Value} (H : VarAt env h x v) (k : ∀ a o, (a = env.locals ∨ ∃ y, env.cells.lookup y = some a) → h.get? a = some o → h'.get? a = some o) : VarAt env h' x v := by
  rcases H with ⟨a, m, hn, e⟩ | ⟨a, c, hc, o, ho, hd⟩
  · exact .inl ⟨a, m, hn.at' fun o e => k _ _ (.inl rfl) e, e⟩
  · exact .inr ⟨a, c, hc, o, k _ _ (.inr ⟨_, hc⟩) ho, hd⟩
theorem Inv.next {D : List Addr} (I : Inv env ρ δ X) (l : Le D X Y) (hD : ∀ a ∈ D, a ∈ dom δ) (H : DictsAt δ' Y) (nd : NewDom X δ δ') : Inv env ρ δ' Y := by
  have kl : ∀ o, X.h.get? env.locals = some o → Y.h.get? env.locals = some o := fun o e => l.keep _ _ e fun m => I.loc.1 (hD _ m)
  have kc : ∀ y c o, env.cells.lookup y = some c → X.h.get? c = some o → Y.h.get? c = some o := fun y c o hc e => l.keep _ _ e fun m => (I.cells y c hc).2.1 (hD _ m)
  refine ⟨fun x m e => ?_, ?_, fun y c hc => ?_, H⟩
  · obtain ⟨v, hv, r⟩ := I.vars x m e
    refine ⟨v, hv.keep ?_, l.repV r⟩
    rintro a o (rfl | ⟨y, hy⟩) q
    · exact kl o q
    · exact kc y a o hy q
  · obtain ⟨n, gn, m, hm⟩ := I.loc
    obtain ⟨oL, _, _, hoL, _⟩ := id hm
    refine ⟨fun q => ?_, (l.gh _ _ hoL).trans gn, m, hm.at' kl⟩
    rcases nd _ q with q | q
    · exact n q
    · rw [q] at hoL; cases hoL
  · obtain ⟨gn, n, v, o, ho, hd⟩ := I.cells y c hc
    refine ⟨(l.gh _ _ ho).trans gn, fun q => ?_, v, o, kc y c o hc ho, hd⟩
    rcases nd _ q with q | q
    · exact n q
    · rw [q] at ho; cases ho
theorem Inv.here (I : Inv env ρ δ X) (l : Le [] X Y) : Inv env ρ δ Y := I.next l (fun _ h => nomatch h) (I.dicts.here l) (NewDom.refl X δ)
theorem Inv.less {ρ' : Vs} (I : Inv env ρ δ X) (h : ∀ x m, ρ'.lookup x = some m → ρ.lookup x = some m) : Inv env ρ' δ X := ⟨fun x m e => I.vars x m (h x m e), I.loc, I.cells, I.dicts⟩
end

/-- e, in this frame, is worth what Q tells -/
noncomputable abbrev EvP (B : Bs) (env : Env) (ρ : Vs) (δ : Ds) (X : Wd B) (Q : MV → Ds → Prop) : Value → Wd B → Prop := fun v Y => ∃ m δ', Q m δ' ∧ RepV B.C Y.g m v ∧ Inv env ρ δ' Y ∧ NewDom X δ δ'
noncomputable abbrev EtP (B : Bs) (env : Env) (ρ : Vs) (δ : Ds) (X : Wd B) (Q : Bool → Ds → Prop) : Bool → Wd B → Prop := fun b Y => ∃ δ', Q b δ' ∧ Inv env ρ δ' Y ∧ NewDom X δ δ'
noncomputable abbrev ElP (B : Bs) (env : Env) (ρ : Vs) (δ : Ds) (X : Wd B) (Q : List MV → Ds → Prop) : List Value → Wd B → Prop := fun vs Y => ∃ ms δ', Q ms δ' ∧ RepL B.C Y.g ms vs ∧ Inv env ρ δ' Y ∧ NewDom X δ δ'
noncomputable abbrev VP (B : Bs) (P : MV → Prop) : Value → Wd B → Prop := fun r Y => ∃ m, P m ∧ RepV B.C Y.g m r
noncomputable def Ev (B : Bs) (A : Around) (env : Env) (e : Sem Value) (ρ : Vs) (δ : Ds) (Q : MV → Ds → Prop) : Prop :=
  ∀ X : Wd B, Inv env ρ δ X → Rn B A (dom δ) e X (EvP B env ρ δ X Q)
/-- a test -/
noncomputable def Et (B : Bs) (A : Around) (env : Env) (e : Sem Bool) (ρ : Vs) (δ : Ds) (Q : Bool → Ds → Prop) : Prop :=
  ∀ X : Wd B, Inv env ρ δ X → Rn B A (dom δ) e X (EtP B env ρ δ X Q)
/-- a list of arguments -/
noncomputable def El (B : Bs) (A : Around) (env : Env) (e : Sem (List Value)) (ρ : Vs) (δ : Ds) (Q : List MV → Ds → Prop) : Prop :=
  ∀ X : Wd B, Inv env ρ δ X → Rn B A (dom δ) e X (ElP B env ρ δ X Q)

/-- an operation upon two values -/
noncomputable def Op2 {α : Type} (B : Bs) (A : Around) (t : Value → Value → Sem α) (a b : MV) (R : α → Wd B → Prop) : Prop :=
  ∀ (X : Wd B) (u v : Value), RepV B.C X.g a u → RepV B.C X.g b v → Rn B A [] (t u v) X R
noncomputable def Bin (B : Bs) (A : Around) (op : Operator) (a b : MV) (P : MV → Prop) : Prop :=
  ∀ (X : Wd B) (u v : Value), RepV B.C X.g a u → RepV B.C X.g b v → Rn B A [] (binaryOp op u v) X (VP B P)
noncomputable def Cmp (B : Bs) (A : Around) (op : CmpOp) (a b : MV) (P : Bool → Prop) : Prop :=
  ∀ (X : Wd B) (u v : Value), RepV B.C X.g a u → RepV B.C X.g b v → Rn B A [] (compareOp op u v) X (fun r _ => ∃ b, P b ∧ r = .bool b)
noncomputable def Un (B : Bs) (A : Around) (op : UnaryOp) (a : MV) (P : MV → Prop) : Prop :=
  ∀ (X : Wd B) (u : Value), RepV B.C X.g a u → Rn B A [] (unaryOp op u) X (VP B P)
/-- a membership test or another comparison that looks into a dict -/
noncomputable def CmpD (B : Bs) (A : Around) (op : CmpOp) (δ : Ds) (a b : MV) (P : Bool → Prop) : Prop :=
  ∀ (X : Wd B) (u v : Value), RepV B.C X.g a u → RepV B.C X.g b v → DictsAt δ X → Rn B A [] (compareOp op u v) X (fun r _ => ∃ b, P b ∧ r = .bool b)
/-- x[i] -/
noncomputable def Sub (B : Bs) (A : Around) (δ : Ds) (a b : MV) (P : MV → Prop) : Prop :=
  ∀ (X : Wd B) (u v : Value), RepV B.C X.g a u → RepV B.C X.g b v → DictsAt δ X → Rn B A [] (getItem u v) X (VP B P)

section
variable {B : Bs} {A : Around} {env : Env} {ρ : Vs} {δ : Ds} {Q : MV → Ds → Prop}
theorem Ev.mono {e : Sem Value} {Q' : MV → Ds → Prop} (h : Ev B A env e ρ δ Q) (k : ∀ m δ', Q m δ' → Q' m δ') : Ev B A env e ρ δ Q' :=
  fun X I => (h X I).mono fun _ _ _ ⟨m, δ', q, r⟩ => ⟨m, δ', k _ _ q, r⟩
theorem Et.mono {e : Sem Bool} {Q Q' : Bool → Ds → Prop} (h : Et B A env e ρ δ Q) (k : ∀ m δ', Q m δ' → Q' m δ') : Et B A env e ρ δ Q' :=
  fun X I => (h X I).mono fun _ _ _ ⟨δ', q, r⟩ => ⟨δ', k _ _ q, r⟩

theorem Ev.int {i k pos} (h : Q (.int i) δ) : Ev B A env (eval (.Constant (.int i) k pos) env) ρ δ Q := fun X I tk =>
  wpAny_Constant_int ⟨X, _, rfl, Le.refl _ _, _, _, h, ⟨_, rfl⟩, I, NewDom.refl _ _⟩
theorem Ev.str {i k pos} (h : Q (.str i) δ) : Ev B A env (eval (.Constant (.str i) k pos) env) ρ δ Q := fun X I tk =>
  Calls.Constant_str ⟨X, _, rfl, Le.refl _ _, _, _, h, ⟨_, rfl⟩, I, NewDom.refl _ _⟩
theorem Ev.bool {b k pos} (h : Q (.bool b) δ) : Ev B A env (eval (.Constant (.bool b) k pos) env) ρ δ Q := fun X I tk =>
  wpAny_pure ⟨X, _, rfl, Le.refl _ _, _, _, h, rfl, I, NewDom.refl _ _⟩
theorem Ev.none_ {k pos} (h : Q .none δ) : Ev B A env (eval (.Constant .none k pos) env) ρ δ Q := fun X I tk =>
  wpAny_pure ⟨X, _, rfl, Le.refl _ _, _, _, h, rfl, I, NewDom.refl _ _⟩

theorem loadVar {M : Model} {A : Around} {E : Value → Shared → Prop} {s : Shared} {x : Str} {v : Value} {Q : Value → Shared → Prop} (O : EnvOk env) (H : VarAt env s.heap x v) (h : Q v s)
    (hn : (x == ("__classdict__" : Str)) = false := by decide) : wpAny M A (loadName env x) Q E s := by
  rcases H with ⟨a, m, hm, e⟩ | ⟨a | a, c, hc, H⟩
  · exact wpAny_loadName_local O.kind a hm e h
  · exact wpAny_loadName_cell O.kind a hc H h
  · exact wpAny_loadName_free O.kind a hc H h hn
theorem Ev.name {x : Str} {pos : Pos} {m : MV} (O : EnvOk env) (e : ρ.lookup x = some m) (h : Q m δ) (hd : (x == ("__debug__" : Str)) = false := by decide) (hn : (x == ("__classdict__" : Str)) = false := by decide) :
    Ev B A env (eval (.Name x pos) env) ρ δ Q := fun X I tk => by
  obtain ⟨v, hv, r⟩ := I.vars x m e
  exact wpAny_Name (loadVar O hv ⟨X, _, rfl, Le.refl _ _, _, _, h, r, I, NewDom.refl _ _⟩ hn) hd

theorem Ev.bin {l r : Expr} {op : Operator} {pos : Pos} (h : Ev B A env (eval l env) ρ δ fun a δ₁ => Ev B A env (eval r env) ρ δ₁ fun b δ₂ => Bin B A op a b fun m => Q m δ₂) :
    Ev B A env (eval (.BinOp l op r pos) env) ρ δ Q := fun X I tk =>
  wpAny_BinOp ((h X I).into fun u Y tk₁ l₁ ⟨a, δ₁, h₁, ra, I₁, n₁⟩ => (h₁ Y I₁).into fun v Z tk₂ l₂ ⟨b, δ₂, h₂, rb, I₂, n₂⟩ =>
    (h₂ Z u v (l₂.repV ra) rb).into fun w W tk₃ l₃ ⟨m, q, rm⟩ =>
      ⟨W, _, rfl, (l₁.trans l₂ n₁).trans (l₃.mono fun _ h => nomatch h) (n₁.trans l₁ n₂), m, δ₂, q, rm, I₂.here l₃, n₁.trans l₁ n₂⟩)
theorem Ev.un {x : Expr} {op : UnaryOp} {pos : Pos} (h : Ev B A env (eval x env) ρ δ fun a δ₁ => Un B A op a fun m => Q m δ₁) : Ev B A env (eval (.UnaryOp op x pos) env) ρ δ Q := fun X I tk =>
  wpAny_UnaryOp ((h X I).into fun u Y tk₁ l₁ ⟨a, δ₁, h₁, ra, I₁, n₁⟩ => (h₁ Y u ra).into fun w W tk₃ l₃ ⟨m, q, rm⟩ =>
      ⟨W, _, rfl, l₁.trans (l₃.mono fun _ h => nomatch h) n₁, m, δ₁, q, rm, I₁.here l₃, n₁⟩)
theorem Ev.cmp {l r : Expr} {op : CmpOp} {pos : Pos} (h : Ev B A env (eval l env) ρ δ fun a δ₁ => Ev B A env (eval r env) ρ δ₁ fun b δ₂ => CmpD B A op δ₂ a b fun m => Q (.bool m) δ₂)
    (hm : behindInMarks op r = false := by with_unfolding_all rfl) : Ev B A env (eval (.Compare l [op] [r] pos) env) ρ δ Q := fun X I tk =>
  wpAny_Compare1 ((h X I).into fun u Y tk₁ l₁ ⟨a, δ₁, h₁, ra, I₁, n₁⟩ => (h₁ Y I₁).into fun v Z tk₂ l₂ ⟨b, δ₂, h₂, rb, I₂, n₂⟩ =>
    (h₂ Z u v (l₂.repV ra) rb I₂.dicts).into fun w W tk₃ l₃ ⟨m, q, rm⟩ =>
      ⟨W, _, rfl, (l₁.trans l₂ n₁).trans (l₃.mono fun _ h => nomatch h) (n₁.trans l₁ n₂), .bool m, δ₂, q, rm, I₂.here l₃, n₁.trans l₁ n₂⟩) hm
theorem Et.cmp {l r : Expr} {op : CmpOp} {pos : Pos} {whole : Sem Value} {Q : Bool → Ds → Prop} (h : Ev B A env (eval l env) ρ δ fun a δ₁ => Ev B A env (eval r env) ρ δ₁ fun b δ₂ => CmpD B A op δ₂ a b fun m => Q m δ₂)
    (hm : behindInMarks op r = false := by with_unfolding_all rfl) : Et B A env (isTrue (.Compare l [op] [r] pos) env whole) ρ δ Q := fun X I tk =>
  wpAny_isTrue_Compare1 ((h X I).into fun u Y tk₁ l₁ ⟨a, δ₁, h₁, ra, I₁, n₁⟩ => (h₁ Y I₁).into fun v Z tk₂ l₂ ⟨b, δ₂, h₂, rb, I₂, n₂⟩ =>
    (h₂ Z u v (l₂.repV ra) rb I₂.dicts).into fun w W tk₃ l₃ ⟨m, q, rm⟩ => by
      subst rm
      exact wpAny_truthy_bool ⟨W, _, rfl, (l₁.trans l₂ n₁).trans (l₃.mono fun _ h => nomatch h) (n₁.trans l₁ n₂), δ₂, q, I₂.here l₃, n₁.trans l₁ n₂⟩) hm
theorem Et.not {x : Expr} {pos : Pos} {whole : Sem Value} {Q : Bool → Ds → Prop} (h : Et B A env (isTrue x env (eval x env)) ρ δ fun b δ₁ => Q (!b) δ₁) :
    Et B A env (isTrue (.UnaryOp .Not x pos) env whole) ρ δ Q := fun X I tk => wpAny_isTrue_Not ((h X I).into fun b Y tk₁ l₁ ⟨δ₁, q, r⟩ => ⟨Y, _, rfl, l₁, δ₁, q, r⟩)
theorem Et.boolop {op : BoolOp} {values : List Expr} {pos : Pos} {whole : Sem Value} {Q : Bool → Ds → Prop} (h : Et B A env (allTrue op values env) ρ δ Q) :
    Et B A env (isTrue (.BoolOp op values pos) env whole) ρ δ Q := fun X I tk => wpAny_isTrue_BoolOp (h X I tk)
theorem Et.andNil {Q : Bool → Ds → Prop} (h : Q true δ) : Et B A env (allTrue .And [] env) ρ δ Q := fun X I tk => wpAny_pure ⟨X, _, rfl, Le.refl _ _, _, h, I, NewDom.refl _ _⟩
theorem Et.orNil {Q : Bool → Ds → Prop} (h : Q false δ) : Et B A env (allTrue .Or [] env) ρ δ Q := fun X I tk => wpAny_pure ⟨X, _, rfl, Le.refl _ _, _, h, I, NewDom.refl _ _⟩
theorem Et.and {x : Expr} {rest : List Expr} {Q : Bool → Ds → Prop} (h : Et B A env (isTrue x env (eval x env)) ρ δ fun b δ₁ => if b then Et B A env (allTrue .And rest env) ρ δ₁ Q else Q false δ₁) :
    Et B A env (allTrue .And (x :: rest) env) ρ δ Q := fun X I tk => wpAny_allTrue_And_cons ((h X I).into fun b Y tk₁ l₁ ⟨δ₁, q, I₁, n₁⟩ => by
  cases b with
  | false => exact ⟨Y, _, rfl, l₁, δ₁, q, I₁, n₁⟩
  | true => exact (q Y I₁).into fun b Z tk₂ l₂ ⟨δ₂, q₂, I₂, n₂⟩ => ⟨Z, _, rfl, l₁.trans l₂ n₁, δ₂, q₂, I₂, n₁.trans l₁ n₂⟩)
theorem Et.or {x : Expr} {rest : List Expr} {Q : Bool → Ds → Prop} (h : Et B A env (isTrue x env (eval x env)) ρ δ fun b δ₁ => if b then Q true δ₁ else Et B A env (allTrue .Or rest env) ρ δ₁ Q) :
    Et B A env (allTrue .Or (x :: rest) env) ρ δ Q := fun X I tk => wpAny_allTrue_Or_cons ((h X I).into fun b Y tk₁ l₁ ⟨δ₁, q, I₁, n₁⟩ => by
  cases b with
  | true => exact ⟨Y, _, rfl, l₁, δ₁, q, I₁, n₁⟩
  | false => exact (q Y I₁).into fun b Z tk₂ l₂ ⟨δ₂, q₂, I₂, n₂⟩ => ⟨Z, _, rfl, l₁.trans l₂ n₁, δ₂, q₂, I₂, n₁.trans l₁ n₂⟩)
/-- a test by a value that is a truth -/
theorem Et.value {e : Expr} {whole : Sem Value} {Q : Bool → Ds → Prop} (h : Ev B A env whole ρ δ fun m δ₁ => ∃ b, m = .bool b ∧ Q b δ₁)
    (he : isTrue e env whole = (do let v ← whole; standAt e.pos; holding [v] (truthy v)) := by rfl) : Et B A env (isTrue e env whole) ρ δ Q := fun X I tk =>
  wpAny_isTrue_value ((h X I).into fun v Y tk₁ l₁ ⟨m, δ₁, ⟨b, e, q⟩, r, I₁, n₁⟩ => by
    subst e
    cases r
    exact wpAny_truthy_bool ⟨Y, _, rfl, l₁, δ₁, q, I₁, n₁⟩) he
theorem Ev.ifExp {t b o : Expr} {pos : Pos} (h : Et B A env (isTrue t env (eval t env)) ρ δ fun c δ₁ => if c then Ev B A env (eval b env) ρ δ₁ Q else Ev B A env (eval o env) ρ δ₁ Q) :
    Ev B A env (eval (.IfExp t b o pos) env) ρ δ Q := fun X I tk => wpAny_IfExp ((h X I).into fun c Y tk₁ l₁ ⟨δ₁, q, I₁, n₁⟩ => by
  cases c with
  | true => exact (q Y I₁).into fun b Z tk₂ l₂ ⟨m, δ₂, q₂, r₂, I₂, n₂⟩ => ⟨Z, _, rfl, l₁.trans l₂ n₁, m, δ₂, q₂, r₂, I₂, n₁.trans l₁ n₂⟩
  | false => exact (q Y I₁).into fun b Z tk₂ l₂ ⟨m, δ₂, q₂, r₂, I₂, n₂⟩ => ⟨Z, _, rfl, l₁.trans l₂ n₁, m, δ₂, q₂, r₂, I₂, n₁.trans l₁ n₂⟩)
/-- and, as a value, of truths -/
theorem Ev.and2 {x y : Expr} {pos : Pos} (h : Ev B A env (eval x env) ρ δ fun m δ₁ => ∃ b, m = .bool b ∧ if b then Ev B A env (eval y env) ρ δ₁ Q else Q (.bool false) δ₁) :
    Ev B A env (eval (.BoolOp .And [x, y] pos) env) ρ δ Q := fun X I tk => wpAny_And2 ((h X I).into fun v Y tk₁ l₁ ⟨m, δ₁, ⟨b, e, q⟩, r, I₁, n₁⟩ => by
  subst e
  cases r
  refine wpAny_truthy_bool ?_
  cases b with
  | false => exact ⟨Y, _, rfl, l₁, _, δ₁, q, rfl, I₁, n₁⟩
  | true => exact (q Y I₁).into fun b Z tk₂ l₂ ⟨m, δ₂, q₂, r₂, I₂, n₂⟩ => ⟨Z, _, rfl, l₁.trans l₂ n₁, m, δ₂, q₂, r₂, I₂, n₁.trans l₁ n₂⟩)

theorem El.nil {pos : Pos} {Q : List MV → Ds → Prop} (h : Q [] δ) : El B A env (spliced (backTo pos (starEach [] env))) ρ δ Q := fun X I tk =>
  wpAny_pure ⟨X, _, rfl, Le.refl _ _, [], _, h, rfl, I, NewDom.refl _ _⟩
theorem El.cons {pos : Pos} {e : Expr} {rest : List Expr} {Q : List MV → Ds → Prop}
    (h : Ev B A env (eval e env) ρ δ fun m δ₁ => El B A env (spliced (backTo pos (starEach rest env))) ρ δ₁ fun ms δ₂ => Q (m :: ms) δ₂)
    (he : starEach (e :: rest) env = (false, eval e env) :: starEach rest env := by rfl) : El B A env (spliced (backTo pos (starEach (e :: rest) env))) ρ δ Q := fun X I tk => by
  rw [he]
  refine Calls.spliced_cons ((h X I).into fun v Y tk₁ l₁ ⟨m, δ₁, h₁, r₁, I₁, n₁⟩ => (h₁ Y I₁).into fun vs Z tk₂ l₂ ⟨ms, δ₂, h₂, r₂, I₂, n₂⟩ =>
    ⟨Z, _, rfl, l₁.trans l₂ n₁, m :: ms, δ₂, h₂, ⟨v, vs, rfl, l₂.repV r₁, r₂⟩, I₂, n₁.trans l₁ n₂⟩)
theorem Ev.tuple {elts : List Expr} {k : Nat} {pos : Pos} (h : El B A env (spliced (backTo pos (starEach elts env))) ρ δ fun ms δ₁ => ms.length ≤ sizeLine ∧ Q (.tup ms) δ₁) :
    Ev B A env (eval (.Tuple elts k pos) env) ρ δ Q := fun X I tk =>
  wpAny_Tuple_spliced ((h X I).into fun vs Y tk₁ l₁ ⟨ms, δ₁, ⟨hz, q⟩, r, I₁, n₁⟩ => by
    have l₂ := Wd.push_le Y (tupO vs)
    refine ⟨by rw [r.length]; exact hz, Y.push (tupO vs), tk₁, rfl, l₁.trans l₂ (fun _ h => nomatch h), ?_⟩
    exact ⟨.tup ms, δ₁, q, ⟨_, vs, 0, rfl, Wd.push_at Y _, l₂.repL r⟩, I₁.here l₂, n₁⟩)
theorem Ev.list {elts : List Expr} {pos : Pos} (h : El B A env (spliced (backTo pos (starEach elts env))) ρ δ fun ms δ₁ => ms.length ≤ sizeLine ∧ Q (.lst ms) δ₁) :
    Ev B A env (eval (.List elts pos) env) ρ δ Q := fun X I tk =>
  wpAny_List_spliced ((h X I).into fun vs Y tk₁ l₁ ⟨ms, δ₁, ⟨hz, q⟩, r, I₁, n₁⟩ => by
    have l₂ := Wd.push_le Y (lstO vs)
    refine ⟨by rw [r.length]; exact hz, Y.push (lstO vs), tk₁, rfl, l₁.trans l₂ (fun _ h => nomatch h), ?_⟩
    exact ⟨.lst ms, δ₁, q, ⟨_, vs, 0, rfl, Wd.push_at Y _, l₂.repL r⟩, I₁.here l₂, n₁⟩)
end
end Mine

/- part MC -/
namespace Mine
open PySem PySem.W PySem.Calls

inductive MF where
  | next | brk | cont
  | ret (m : MV)
noncomputable def RepF (C : Cx) (g : Gh) : MF → Flow → Prop
  | .next, f => f = .next
  | .brk, f => f = .brk
  | .cont, f => f = .cont
  | .ret m, f => ∃ v, f = .ret v ∧ RepV C g m v

noncomputable def foot (env : Env) (δ : Ds) : List Addr := env.locals :: (env.cells.map (·.2) ++ dom δ)

noncomputable def setv : Vs → Str → MV → Vs
  | [], x, m => [(x, m)]
  | (y, n) :: r, x, m => if x == y then (y, m) :: r else (y, n) :: setv r x m
theorem setv_lookup : ∀ (ρ : Vs) (x y : Str) (m : MV), (setv ρ x m).lookup y = if y = x then some m else ρ.lookup y
  | [], x, y, m => by
    by_cases h : y = x
    · subst h; simp [setv]
    · have : (y == x) = false := by simpa using h
      simp [setv, List.lookup_cons, h, this]
  | (z, n) :: r, x, y, m => by
    unfold setv
    by_cases hxz : x = z
    · subst hxz
      simp only [beq_self_eq_true, if_true, List.lookup_cons]
      by_cases h : y = x
      · subst h; simp
      · have : (y == x) = false := by simpa using h
        simp [h, this]
    · have hb : (x == z) = false := by simpa using hxz
      simp only [hb, Bool.false_eq_true, if_false, List.lookup_cons]
      by_cases hyz : y = z
      · subst hyz
        simp only [beq_self_eq_true]
        rw [if_neg (fun e => hxz e.symm)]
      · have : (y == z) = false := by simpa using hyz
        simp only [this]
        exact setv_lookup r x y m

noncomputable abbrev ExP (B : Bs) (env : Env) (δ : Ds) (X : Wd B) (Q : MF → Vs → Ds → Prop) : Flow → Wd B → Prop := fun f Y => ∃ mf ρ' δ', Q mf ρ' δ' ∧ RepF B.C Y.g mf f ∧ Inv env ρ' δ' Y ∧ NewDom X δ δ'
noncomputable def Ex (B : Bs) (A : Around) (env : Env) (t : Sem Flow) (ρ : Vs) (δ : Ds) (Q : MF → Vs → Ds → Prop) : Prop :=
  ∀ X : Wd B, Inv env ρ δ X → Rn B A (foot env δ) t X (ExP B env δ X Q)

section
variable {B : Bs} {A : Around} {env : Env} {ρ : Vs} {δ δ' : Ds} {Q : MF → Vs → Ds → Prop} {X Y : Wd B}
theorem foot_new (n : NewDom X δ δ') : ∀ a ∈ foot env δ', a ∈ foot env δ ∨ X.h.get? a = none := fun a h => by
  rcases List.mem_cons.mp h with h | h
  · exact .inl (h ▸ List.mem_cons_self)
  · rcases List.mem_append.mp h with h | h
    · exact .inl (List.mem_cons_of_mem _ (List.mem_append_left _ h))
    · exact (n a h).imp (fun h => List.mem_cons_of_mem _ (List.mem_append_right _ h)) id
theorem dom_foot : ∀ a ∈ dom δ, a ∈ foot env δ := fun _ h => List.mem_cons_of_mem _ (List.mem_append_right _ h)
theorem Inv.lessS {ρ' : Vs} (I : Inv env ρ δ X) (h : ∀ x m, ρ'.lookup x = some m → ρ.lookup x = some m) : Inv env ρ' δ X := I.less h

/-- some facts about the variables are dropped, or told in another order -/
noncomputable def SubV : Vs → Vs → Prop
  | [], _ => True
  | (x, m) :: r, ρ => ρ.lookup x = some m ∧ SubV r ρ
theorem SubV.lookup : ∀ {ρ' ρ : Vs}, SubV ρ' ρ → ∀ x m, ρ'.lookup x = some m → ρ.lookup x = some m
  | (y, n) :: r, ρ, ⟨h, k⟩, x, m, e => by
    rw [List.lookup_cons] at e
    cases hb : x == y with
    | true => rw [hb] at e; cases e; rw [beq_iff_eq.mp hb]; exact h
    | false => rw [hb] at e; exact SubV.lookup k x m e
theorem SubV.ofMap : ∀ {ρ' ρ : Vs}, ρ'.map (fun p => ρ.lookup p.1) = ρ'.map (fun p => some p.2) → SubV ρ' ρ
  | [], _, _ => trivial
  | p :: r, ρ, h => ⟨(List.cons.inj h).1, SubV.ofMap (List.cons.inj h).2⟩
theorem Ex.vars {t : Sem Flow} (ρ' : Vs) (h : SubV ρ' ρ) (k : Ex B A env t ρ' δ Q) : Ex B A env t ρ δ Q := fun X I => k X (I.less h.lookup)
theorem Ex.mono {t : Sem Flow} {Q' : MF → Vs → Ds → Prop} (h : Ex B A env t ρ δ Q) (k : ∀ f ρ' δ', Q f ρ' δ' → Q' f ρ' δ') : Ex B A env t ρ δ Q' :=
  fun X I => (h X I).mono fun _ _ _ ⟨f, ρ', δ', q, r⟩ => ⟨f, ρ', δ', k _ _ _ q, r⟩
theorem Ex.nil (h : Q .next ρ δ) : Ex B A env (execs [] env) ρ δ Q := fun X I tk => wpAny_execs_nil ⟨X, _, rfl, Le.refl _ _, _, _, _, h, rfl, I, NewDom.refl _ _⟩
/-- what is to hold behind a row: the rest runs on -/
noncomputable abbrev Then (B : Bs) (A : Around) (env : Env) (rest : List Stmt) (Q : MF → Vs → Ds → Prop) : MF → Vs → Ds → Prop := fun f ρ' δ' => match f with | .next => Ex B A env (execs rest env) ρ' δ' Q | f => Q f ρ' δ'
theorem Ex.cons {body : List Stmt} {st : Stmt} {rest : List Stmt} (e : body = st :: rest)
    (h : Ex B A env (exec st env) ρ δ (Then B A env rest Q)) : Ex B A env (execs body env) ρ δ Q := fun X I tk => by
  subst e
  refine wpAny_execs_cons ((h X I).into fun f Y tk₁ l₁ ⟨mf, ρ', δ', q, r, I₁, n₁⟩ => ?_)
  cases mf with
  | next =>
    have hf : f = .next := r
    subst hf
    exact (q Y I₁).into fun f Z tk₂ l₂ ⟨mf, ρ₂, δ₂, q₂, r₂, I₂, n₂⟩ => ⟨Z, _, rfl, l₁.trans l₂ (foot_new n₁), mf, ρ₂, δ₂, q₂, r₂, I₂, n₁.trans l₁ n₂⟩
  | brk => have hf : f = .brk := r; subst hf; exact ⟨Y, _, rfl, l₁, .brk, ρ', δ', q, rfl, I₁, n₁⟩
  | cont => have hf : f = .cont := r; subst hf; exact ⟨Y, _, rfl, l₁, .cont, ρ', δ', q, rfl, I₁, n₁⟩
  | ret m => obtain ⟨v, rfl, rv⟩ := r; exact ⟨Y, _, rfl, l₁, .ret m, ρ', δ', q, ⟨v, rfl, rv⟩, I₁, n₁⟩
theorem Ex.ret {e : Expr} {pos : Pos} (h : Ev B A env (eval e env) ρ δ fun m δ' => Q (.ret m) ρ δ') : Ex B A env (exec (.Return (some e) pos) env) ρ δ Q := fun X I tk =>
  wpAny_Return_some ((h X I).into fun v Y tk₁ l₁ ⟨m, δ', q, r, I₁, n₁⟩ => ⟨Y, _, rfl, l₁.mono dom_foot, .ret m, ρ, δ', q, ⟨v, rfl, r⟩, I₁, n₁⟩)
theorem Ex.brk {pos : Pos} (h : Q .brk ρ δ) : Ex B A env (exec (.Break pos) env) ρ δ Q := fun X I tk =>
  wpAny_Break ⟨X, _, rfl, Le.refl _ _, _, _, _, h, rfl, I, NewDom.refl _ _⟩
theorem Ex.if_ {t : Expr} {b o : List Stmt} {pos : Pos} (h : Et B A env (isTrue t env (eval t env)) ρ δ fun c δ' => if c then Ex B A env (execs b env) ρ δ' Q else Ex B A env (execs o env) ρ δ' Q) :
    Ex B A env (exec (.If t b o pos) env) ρ δ Q := fun X I tk => wpAny_If ((h X I).into fun c Y tk₁ l₁ ⟨δ₁, q, I₁, n₁⟩ => by
  have go : ∀ {t : Sem Flow}, Ex B A env t ρ δ₁ Q → wpAny B.M A t (fun a s' => ∃ X' tk', s' = St B X'.h tk' ∧ Le (foot env δ) X X' ∧ ∃ mf ρ' δ', Q mf ρ' δ' ∧ RepF B.C X'.g mf a ∧ Inv env ρ' δ' X' ∧ NewDom X δ δ') (fun _ _ => False) (St B Y.h tk₁) :=
    fun q => (q Y I₁).into fun f Z tk₂ l₂ ⟨mf, ρ₂, δ₂, q₂, r₂, I₂, n₂⟩ => ⟨Z, _, rfl, (l₁.mono dom_foot).trans l₂ (foot_new n₁), mf, ρ₂, δ₂, q₂, r₂, I₂, n₁.trans l₁ n₂⟩
  cases c with
  | true => exact go q
  | false => exact go q)

theorem isCell_ne_ns {h : Heap} {c L : Addr} {v : Option Value} {m : Str → Option Value} (a : h.IsCell c v) (b : h.Ns L m) : c ≠ L := fun e => by
  subst e
  obtain ⟨o, ho, hd⟩ := a
  obtain ⟨o', es, ep, ho', hd', _⟩ := b
  rw [ho] at ho'; cases ho'; rw [hd] at hd'; cases hd'

/-- x, in this frame, may be stored -/
noncomputable def May (env : Env) (x : Str) : Prop := env.kindOf x = some .local ∨ (env.kindOf x = some .cell ∧ ∃ c, env.cells.lookup x = some c)

theorem storeVar {x : Str} {m : MV} {v : Value} (O : EnvOk env) (hx : May env x) (I : Inv env ρ δ X) (r : RepV B.C X.g m v) :
    Rn B A (foot env δ) (storeName env x v) X (fun _ Y => Inv env (setv ρ x m) δ Y ∧ Y.g = X.g) := fun tk => by
  obtain ⟨nL, gL, mL, hL⟩ := I.loc
  rcases hx with hx | ⟨hx, c, hc⟩
  · refine wpAny_storeName_local hx hL (fun h' hn hs => ?_) (by rw [O.kind]; rfl)
    have D0 : ∀ a ∈ [env.locals], X.g a = none := fun a h => by rw [List.mem_singleton.mp h]; exact gL
    have k0 : ∀ a o, X.h.get? a = some o → a ∉ [env.locals] → h'.get? a = some o := fun a o e n => (hs.2 a (fun q => n (List.mem_singleton.mpr q))).trans e
    have lv : ∀ a ∈ [env.locals], ∀ o, X.h.get? a = some o → ∃ o', h'.get? a = some o' := fun a h _ _ => by
      rw [List.mem_singleton.mp h]
      obtain ⟨o, _, _, ho, _⟩ := hn
      exact ⟨o, ho⟩
    refine ⟨X.to h' [env.locals] k0 D0, _, rfl, (Wd.to_le X lv).mono fun a h => by rw [List.mem_singleton.mp h]; exact List.mem_cons_self, ⟨fun y n e => ?_, ⟨nL, gL, _, hn⟩, fun y c hc => ?_, ?_⟩, rfl⟩
    · rw [setv_lookup] at e
      by_cases hy : y = x
      · subst hy; rw [if_pos rfl] at e; cases e
        exact ⟨v, .inl ⟨hx, _, hn, if_pos rfl⟩, r⟩
      · rw [if_neg hy] at e
        obtain ⟨u, hu, ru⟩ := I.vars y n e
        refine ⟨u, ?_, ru⟩
        rcases hu with ⟨a, m', hm', em⟩ | ⟨a, c, hc, hv⟩
        · refine .inl ⟨a, _, hn, ?_⟩
          rw [if_neg hy]
          have : mL = m' := by
            funext z
            obtain ⟨o, es, ep, ho, hd, hk, hf⟩ := hL
            obtain ⟨o', es', ep', ho', hd', hk', hf'⟩ := hm'
            rw [ho] at ho'; cases ho'; rw [hd] at hd'; cases hd'
            exact (hf z).symm.trans (hf' z)
          rw [this]; exact em
        · exact .inr ⟨a, c, hc, hv.sameBut hs (isCell_ne_ns hv hL)⟩
    · obtain ⟨gc, nc, u, hu⟩ := I.cells y c hc
      exact ⟨gc, nc, u, hu.sameBut hs (isCell_ne_ns hu hL)⟩
    · exact I.dicts.next (Wd.to_le X (hk := k0) (hD := D0) lv) fun a h q => nL ((List.mem_singleton.mp q) ▸ h)
  · obtain ⟨gc, nc, u, hu⟩ := I.cells x c hc
    refine wpAny_storeName_cell O.kind hx hc hu (fun h' hn hs => ?_)
    have D0 : ∀ a ∈ [c], X.g a = none := fun a h => by rw [List.mem_singleton.mp h]; exact gc
    have k0 : ∀ a o, X.h.get? a = some o → a ∉ [c] → h'.get? a = some o := fun a o e n => (hs.2 a (fun q => n (List.mem_singleton.mpr q))).trans e
    have hcm : c ∈ foot env δ := List.mem_cons_of_mem _ (List.mem_append_left _ (List.mem_map.mpr ⟨(x, c), mem_of_lookup hc, rfl⟩))
    have hne := isCell_ne_ns hu hL
    have lv : ∀ a ∈ [c], ∀ o, X.h.get? a = some o → ∃ o', h'.get? a = some o' := fun a h _ _ => by
      rw [List.mem_singleton.mp h]
      obtain ⟨o, ho, _⟩ := hn
      exact ⟨o, ho⟩
    refine ⟨X.to h' [c] k0 D0, tk, rfl, (Wd.to_le X lv).mono fun a h => by rw [List.mem_singleton.mp h]; exact hcm, ⟨fun y n e => ?_, ⟨nL, gL, _, hL.sameBut hs (Ne.symm hne)⟩, fun y c' hc' => ?_, ?_⟩, rfl⟩
    · rw [setv_lookup] at e
      by_cases hy : y = x
      · subst hy; rw [if_pos rfl] at e; cases e
        exact ⟨v, .inr ⟨.inl hx, c, hc, hn⟩, r⟩
      · rw [if_neg hy] at e
        obtain ⟨w, hw, rw'⟩ := I.vars y n e
        refine ⟨w, ?_, rw'⟩
        rcases hw with ⟨a, m', hm', em⟩ | ⟨a, c', hc', hv⟩
        · exact .inl ⟨a, m', hm'.sameBut hs (Ne.symm hne), em⟩
        · exact .inr ⟨a, c', hc', hv.sameBut hs fun q => hy (O.apart _ _ _ (q ▸ hc') hc)⟩
    · obtain ⟨gc', nc', w, hw⟩ := I.cells y c' hc'
      refine ⟨gc', nc', ?_⟩
      by_cases q : c' = c
      · subst q; exact ⟨_, hn⟩
      · exact ⟨w, hw.sameBut hs q⟩
    · exact I.dicts.next (Wd.to_le X (hk := k0) (hD := D0) lv) fun a h q => nc ((List.mem_singleton.mp q) ▸ h)

theorem Ex.assign {x : Str} {xp : Pos} {value : Expr} {pos : Pos} (O : EnvOk env) (hx : May env x) (h : Ev B A env (eval value env) ρ δ fun m δ' => Q .next (setv ρ x m) δ')
    (hs : swapsWith value (some (.Name x xp)) pos.line env = pure false := by rfl) : Ex B A env (exec (.Assign [.Name x xp] value pos) env) ρ δ Q := fun X I tk =>
  wpAny_Assign_Name ((h X I).into fun v Y tk₁ l₁ ⟨m, δ', q, r, I₁, n₁⟩ => (storeVar O hx I₁ r).into fun _ Z tk₂ l₂ ⟨I₂, _⟩ =>
    ⟨Z, _, rfl, (l₁.mono dom_foot).trans l₂ (foot_new n₁), .next, _, δ', q, rfl, I₂, n₁⟩) hs

/-- the targets of a tuple assignment, in order -/
noncomputable def setvs : Vs → List Str → List MV → Vs
  | ρ, x :: xs, m :: ms => setvs (setv ρ x m) xs ms
  | ρ, _, _ => ρ
theorem storeVars (O : EnvOk env) : ∀ (xs : List Str) (ts : List (Value → Sem Unit)) (ms : List MV) (vs : List Value) {ρ : Vs} {X : Wd B}, ts.length = xs.length →
    (∀ (i : Nat) x t, xs[i]? = some x → ts[i]? = some t → ∀ v, ∀ (s : Shared) (Q : Unit → Shared → Prop) (E : Value → Shared → Prop), wpAny B.M A (storeName env x v) Q E s → wpAny B.M A (t v) Q E s) →
    (∀ x ∈ xs, May env x) → xs.length = ms.length → Inv env ρ δ X → RepL B.C X.g ms vs →
    Rn B A (foot env δ) (assignInOrder ts vs) X (fun _ Y => Inv env (setvs ρ xs ms) δ Y ∧ Y.g = X.g) := by
  intro xs
  induction xs with
  | nil =>
    intro ts ms vs ρ X hl ht hx hn I r
    have h1 : ts = [] := List.length_eq_zero_iff.mp hl
    have h2 : ms = [] := List.length_eq_zero_iff.mp hn.symm
    subst h1 h2
    have h3 : vs = [] := r
    subst h3
    exact fun tk => wpAny_pure ⟨X, _, rfl, Le.refl _ _, I, rfl⟩
  | cons x xs ih =>
    intro ts ms vs ρ X hl ht hx hn I r
    obtain ⟨t, ts, rfl⟩ := List.exists_cons_of_length_eq_add_one hl
    obtain ⟨m, ms, rfl⟩ := List.exists_cons_of_length_eq_add_one hn.symm
    obtain ⟨v, r, rfl, rv, rl⟩ := r
    intro tk
    unfold assignInOrder
    refine wpAny_bind (wpAny_holding ?_)
    refine ht 0 x t rfl rfl v _ _ _ ((storeVar O (hx x List.mem_cons_self) I rv).into fun _ Y tk₁ l₁ h => ?_)
    obtain ⟨I₁, e₁⟩ := h
    refine (ih ts ms r (Nat.succ.inj hl) (fun i x t h1 h2 => ht (i + 1) x t h1 h2) (fun y hy => hx y (List.mem_cons_of_mem _ hy)) (Nat.succ.inj hn) I₁ (e₁.symm ▸ rl)).into fun _ Z tk₂ l₂ h => ?_
    exact ⟨Z, _, rfl, l₁.trans l₂ fun a h => .inl h, h.1, h.2.trans e₁⟩
end
end Mine

/- part MD -/
namespace Mine
open PySem PySem.W PySem.Calls

/-- targets that are names -/
noncomputable def tgts : List Expr → Option (List Str)
  | [] => some []
  | .Name x _ :: r => (tgts r).map (x :: ·)
  | _ => none

section
variable {B : Bs} {A : Around} {env : Env} {ρ : Vs} {δ δ' : Ds} {Q : MF → Vs → Ds → Prop} {X Y : Wd B}

theorem tgts_each : ∀ {elts : List Expr} {xs : List Str}, tgts elts = some xs → ((assignEach elts env).map (·.2)).length = xs.length ∧ (assignEach elts env).findIdx? (·.1) = none ∧
    ∀ (i : Nat) x t, xs[i]? = some x → ((assignEach elts env).map (·.2))[i]? = some t → ∃ p, t = PySem.assign (.Name x p) env
  | [], xs, h => by cases h; exact ⟨rfl, rfl, fun i x t e => by simp at e⟩
  | e :: r, xs, h => by
    cases e <;> try (simp [tgts] at h; done)
    rename_i x p
    simp only [tgts, Option.map_eq_some_iff] at h
    obtain ⟨ys, hy, rfl⟩ := h
    obtain ⟨h1, h2, h3⟩ := tgts_each hy
    have ee : assignEach (.Name x p :: r) env = (false, PySem.assign (.Name x p) env) :: assignEach r env := rfl
    rw [ee]
    refine ⟨by simpa using h1, by simp [List.findIdx?_cons, h2], fun i y t e1 e2 => ?_⟩
    cases i with
    | zero => simp at e1 e2; exact ⟨p, by rw [← e2, e1]⟩
    | succ i => simp only [List.map_cons, List.getElem?_cons_succ] at e1 e2; exact h3 i y t e1 e2

/-- the tuple's items, taken apart -/
theorem unpackTup {ms : List MV} {v : Value} (hA : A.handled = none) (r : RepV B.C X.g (.tup ms) v) : Rn B A [] (unpackItems v ms.length none) X (fun vs Y => RepL B.C Y.g ms vs ∧ Y.g = X.g) := fun tk => by
  obtain ⟨a, vs, n, rfl, hg, rl⟩ := r
  have ht : X.h.IsTuple a vs.toArray := ⟨_, X.sub _ _ hg, rfl, n, rfl⟩
  have hz : vs.toArray.size = ms.length := by rw [List.size_toArray, rl.length]
  rw [← hz]
  refine wpAny_unpackItems_tuple hA ht fun h' hx => ?_
  have k : ∀ a o, X.h.get? a = some o → h'.get? a = some o := fun a o e => hx a o (fun q => by
    have e' := e
    rw [q] at e'
    have := no_at_size X.h
    rw [show (St B X.h tk).heap = X.h from rfl] at e'
    rw [this] at e'; cases e') e
  exact ⟨X.more h' k, tk, rfl, Wd.more_le X, rl, rfl⟩

theorem Ex.assignTup {elts : List Expr} {k : Nat} {tp : Pos} {value : Expr} {pos : Pos} {xs : List Str} (O : EnvOk env) (hA : A.handled = none) (ht : tgts elts = some xs) (hx : ∀ x ∈ xs, May env x)
    (h : Ev B A env (eval value env) ρ δ fun m δ' => ∃ ms, m = .tup ms ∧ ms.length = xs.length ∧ Q .next (setvs ρ xs ms) δ')
    (hs : swapsWithSole [.Tuple elts k tp] value pos.line env = pure false) (hw : swappedStores [.Tuple elts k tp] value env = pure none) :
    Ex B A env (exec (.Assign [.Tuple elts k tp] value pos) env) ρ δ Q := fun X I tk => by
  obtain ⟨h1, h2, h3⟩ := tgts_each (env := env) ht
  refine wpAny_Assign_stores ((h X I).into fun v Y tk₁ l₁ ⟨m, δ', ⟨ms, e, hl, q⟩, r, I₁, n₁⟩ => ?_) hs hw
  subst e
  show wpAny _ A (PySem.assign (.Tuple elts k tp) env v) _ _ _
  show wpAny _ A (do standAt tp; unpack v (assignEach elts env)) _ _ _
  refine wpAny_bind (wpAny_standAt ?_)
  unfold unpack
  rw [h2]
  refine wpAny_bind (wpAny_holding ?_)
  have hlen : (assignEach elts env).length = ms.length := by rw [List.length_map] at h1; rw [h1, hl]
  rw [hlen]
  refine (unpackTup hA r).into fun vs Z tk₂ l₂ ⟨rl, hg⟩ => ?_
  have SV := storeVars (B := B) (A := A) O xs ((assignEach elts env).map (·.2)) ms vs h1 (fun i x t e1 e2 v s Q E w => by
    obtain ⟨p, rfl⟩ := h3 i x t e1 e2
    exact wpAny_assign_Name w) hx hl.symm (I₁.here l₂) rl
  exact SV.into fun _ W tk₃ l₃ ⟨I₃, _⟩ =>
    ⟨W, _, rfl, ((l₁.mono dom_foot).trans (l₂.mono fun _ h => nomatch h) (D' := []) fun _ h => nomatch h).trans l₃ (foot_new n₁), MF.next, _, δ', q, rfl, I₃, n₁⟩

theorem Ex.assignSwap {elts vals : List Expr} {k k' : Nat} {tp vp : Pos} {pos : Pos} {xs : List Str} (O : EnvOk env) (hA : A.handled = none) (hx : ∀ x ∈ xs, May env x)
    (h : Ev B A env (eval (.Tuple vals k' vp) env) ρ δ fun m δ' => ∃ ms, m = .tup ms ∧ ms.length = xs.length ∧ Q .next (setvs ρ xs.reverse ms.reverse) δ')
    (hs : swapsWithSole [.Tuple elts k tp] (.Tuple vals k' vp) pos.line env = pure false) (hw : swappedStores [.Tuple elts k tp] (.Tuple vals k' vp) env = pure (some xs)) :
    Ex B A env (exec (.Assign [.Tuple elts k tp] (.Tuple vals k' vp) pos) env) ρ δ Q := fun X I tk => by
  rw [exec_Assign_arm]
  refine wpAny_bind (wpAny_standAt ?_)
  rw [hs]
  refine wpAny_bind (wpAny_pure ?_)
  rw [if_neg (by decide)]
  refine wpAny_bind ((h X I).into fun v Y tk₁ l₁ ⟨m, δ', ⟨ms, e, hl, q⟩, r, I₁, n₁⟩ => ?_)
  subst e
  rw [hw]
  refine wpAny_bind (wpAny_pure ?_)
  show wpAny _ A (do rule "assign.swapped-stores"; let items ← unpackItems v xs.length none; assignInOrder (xs.reverse.map fun n => bindName env n) items.reverse; (pure Flow.next : Sem Flow)) _ _ _
  refine wpAny_bind (wpAny_rule (wpAny_bind ?_))
  rw [← hl]
  refine (unpackTup hA r).into fun vs Z tk₂ l₂ ⟨rl, hg⟩ => ?_
  have rr : RepL B.C Z.g ms.reverse vs.reverse := RepL.of_get (by simp [rl.length]) fun i m v e1 e2 => by
    have hi : i < ms.length := by have := (List.getElem?_eq_some_iff.mp e1).1; simpa using this
    rw [List.getElem?_reverse hi] at e1
    rw [List.getElem?_reverse (by rw [rl.length]; exact hi)] at e2
    rw [rl.length] at e2
    obtain ⟨u, hu, ru⟩ := rl.get e1
    rw [hu] at e2; cases e2; exact ru
  have SV := storeVars (B := B) (A := A) O xs.reverse (xs.reverse.map fun n => bindName env n) ms.reverse vs.reverse (by simp) (fun i x t e1 e2 v s Q E w => by
    rw [List.getElem?_map, e1] at e2
    cases e2
    exact wpAny_bindName w) (fun x h => hx x (List.mem_reverse.mp h)) (by simp [hl]) (I₁.here l₂) rr
  exact wpAny_bind (SV.into fun _ W tk₃ l₃ ⟨I₃, _⟩ =>
    wpAny_pure ⟨W, _, rfl, ((l₁.mono dom_foot).trans (l₂.mono fun _ h => nomatch h) (D' := []) fun _ h => nomatch h).trans l₃ (foot_new n₁), MF.next, _, δ', q, rfl, I₃, n₁⟩)

/-- a store into a dict -/
noncomputable abbrev DiP {B : Bs} (δ : Ds) (P : Ds → Prop) : Unit → Wd B → Prop := fun _ Y => ∃ δ', P δ' ∧ dom δ' = dom δ ∧ DictsAt δ' Y
noncomputable def SetD (B : Bs) (A : Around) (δ : Ds) (d k v : MV) (P : Ds → Prop) : Prop :=
  ∀ (X : Wd B) (u i w : Value), RepV B.C X.g d u → RepV B.C X.g k i → RepV B.C X.g v w → DictsAt δ X → Rn B A (dom δ) (setItem u i w) X (DiP δ P)
noncomputable def DelD (B : Bs) (A : Around) (δ : Ds) (d k : MV) (P : Ds → Prop) : Prop :=
  ∀ (X : Wd B) (u i : Value), RepV B.C X.g d u → RepV B.C X.g k i → DictsAt δ X → Rn B A (dom δ) (delItem u i) X (DiP δ P)
theorem NewDom.of_eq (e : dom δ' = dom δ) : NewDom X δ δ' := fun a h => .inl (e ▸ h)

theorem Ex.setItem {o i value : Expr} {sp pos : Pos}
    (h : Ev B A env (eval value env) ρ δ fun v δ₁ => Ev B A env (eval o env) ρ δ₁ fun d δ₂ => Ev B A env (eval i env) ρ δ₂ fun k δ₃ => SetD B A δ₃ d k v fun δ₄ => Q .next ρ δ₄)
    (hs : swapsWith value (some (.Subscript o i sp)) pos.line env = pure false := by rfl) : Ex B A env (exec (.Assign [.Subscript o i sp] value pos) env) ρ δ Q := fun X I tk =>
  wpAny_Assign_Subscript ((h X I).into fun v Y tk₁ l₁ ⟨mv, δ₁, h₁, r₁, I₁, n₁⟩ => (h₁ Y I₁).into fun d Z tk₂ l₂ ⟨md, δ₂, h₂, r₂, I₂, n₂⟩ => (h₂ Z I₂).into fun k W tk₃ l₃ ⟨mk, δ₃, h₃, r₃, I₃, n₃⟩ =>
    (h₃ W d k v (l₃.repV r₂) r₃ (l₃.repV (l₂.repV r₁)) I₃.dicts).into fun _ U tk₄ l₄ ⟨δ₄, q, e, H⟩ =>
      have n₁₂ := n₁.trans l₁ n₂
      have l₁₂ := l₁.trans l₂ n₁
      have n₁₃ := n₁₂.trans l₁₂ n₃
      have l₁₃ := l₁₂.trans l₃ n₁₂
      ⟨U, _, rfl, (l₁₃.trans l₄ n₁₃).mono dom_foot, .next, ρ, δ₄, q, rfl, I₃.next l₄ (fun _ h => h) H (NewDom.of_eq e), n₁₃.trans l₁₃ (NewDom.of_eq e)⟩) hs
theorem Ex.delItem {o i : Expr} {sp pos : Pos}
    (h : Ev B A env (eval o env) ρ δ fun d δ₂ => Ev B A env (eval i env) ρ δ₂ fun k δ₃ => DelD B A δ₃ d k fun δ₄ => Q .next ρ δ₄) : Ex B A env (exec (.Delete [.Subscript o i sp] pos) env) ρ δ Q := fun X I tk =>
  wpAny_Delete (wpAny_deleteEach_cons (wpAny_delete_Subscript ((h X I).into fun d Z tk₂ l₂ ⟨md, δ₂, h₂, r₂, I₂, n₂⟩ => (h₂ Z I₂).into fun k W tk₃ l₃ ⟨mk, δ₃, h₃, r₃, I₃, n₃⟩ =>
    (h₃ W d k (l₃.repV r₂) r₃ I₃.dicts).into fun _ U tk₄ l₄ ⟨δ₄, q, e, H⟩ =>
      have n₁₃ := n₂.trans l₂ n₃
      have l₁₃ := l₂.trans l₃ n₂
      wpAny_deleteEach_nil ⟨U, _, rfl, (l₁₃.trans l₄ n₁₃).mono dom_foot, .next, ρ, δ₄, q, rfl, I₃.next l₄ (fun _ h => h) H (NewDom.of_eq e), n₁₃.trans l₁₃ (NewDom.of_eq e)⟩)))

/-- calls -/
structure AOk (n : Nat) (A : Around) : Prop where
  hh : A.handled = none
  hd : A.depth + n < recursionLimit
  hu : A.units + 8 * n + 100 < cLine
theorem AOk.deeper {n : Nat} {A : Around} {e : Env} (h : AOk (n + 1) A) : AOk n (A.deeper e) := ⟨h.hh, by have := h.hd; show A.depth + 1 + n < _; omega, by have := h.hu; show A.units + 3 + 8 * n + 100 < _; omega⟩
theorem AOk.less {n m : Nat} {A : Around} (h : AOk n A) (k : m ≤ n) : AOk m A := ⟨h.hh, by have := h.hd; omega, by have := h.hu; omega⟩

noncomputable def Bs.Glob (B : Bs) (f : Str) (v : Value) : Prop := B.mg f = some v ∨ (B.mg f = none ∧ B.mb f = some v)
theorem evGlob {M : Model} {E : Value → Shared → Prop} {f : Str} {fv : Value} {p : Pos} {tk : Nat} {Q : Value → Shared → Prop} (O : EnvOk env) (hk : env.kindOf f = some .globalImplicit) (hg : B.Glob f fv) (X : Wd B)
    (h : Q fv (St B X.h tk)) (hd : (f == ("__debug__" : Str)) = false := by decide) : wpAny M A (eval (.Name f p) env) Q E (St B X.h tk) := by
  have g : X.h.Ns env.globals B.mg := by rw [O.glob]; exact B.T.g.keeps X.keepsB
  have b : X.h.Ns env.builtins B.mb := by rw [O.bltn]; exact B.T.b.keeps X.keepsB
  rcases hg with e | ⟨e, e'⟩
  · exact Name_function_global O.kind hk (loadGlobal_global (by exact g) e h) hd
  · exact Name_function_global O.kind hk (loadGlobal_builtin (by exact g) e (by exact b) e' h) hd

/-- who keeps what a call is handed -/
noncomputable def Kp (B : Bs) (f : Value) : Prop := ∀ (M : Model) (h : Heap), (∀ a o, B.hb.get? a = some o → h.get? a = some o) → ∃ k, (k = Keeper.frame ∨ k = Keeper.machine ∨ k = Keeper.boundFrame) ∧ Looks M h (keeperOf f) k
theorem Kp.builtin {id : String} : Kp B (.builtin id) := fun _ _ _ => ⟨.machine, .inr (.inl rfl), Looks.now⟩
theorem Kp.type {T : String} : Kp B (.type T) := fun _ _ _ => ⟨.machine, .inr (.inl rfl), Looks.now⟩
theorem Kp.func {a : Addr} {o : Obj} {fd : FuncData} (e : B.hb.get? a = some o) (d : o.data = .func fd) : Kp B (.ref a) := fun M h k => by
  refine ⟨.frame, .inl rfl, (Looks.ld (part := none) (k _ _ e)).andThen ?_⟩
  rw [d]; exact .now

/-- a call of f with these: what it hands back, and what becomes of the dicts -/
noncomputable abbrev CoP (B : Bs) (δ : Ds) (Q : MV → Ds → Prop) : Value → Wd B → Prop := fun v Y => ∃ m δ', Q m δ' ∧ dom δ' = dom δ ∧ RepV B.C Y.g m v ∧ DictsAt δ' Y
noncomputable def Co (B : Bs) (A : Around) (f : Value) (ms : List MV) (δ : Ds) (Q : MV → Ds → Prop) : Prop :=
  ∀ (X : Wd B) (vs : List Value), RepL B.C X.g ms vs → DictsAt δ X → Rn B A (dom δ) (call f vs) X (CoP B δ Q)
/-- a call that no dict has to do with -/
noncomputable def Cq (B : Bs) (A : Around) (f : Value) (ms : List MV) (P : MV → Prop) : Prop :=
  ∀ (X : Wd B) (vs : List Value), RepL B.C X.g ms vs → Rn B A [] (call f vs) X (VP B P)
theorem Co.mono {f : Value} {ms : List MV} {Q Q' : MV → Ds → Prop} (h : Co B A f ms δ Q) (k : ∀ m δ', dom δ' = dom δ → Q m δ' → Q' m δ') : Co B A f ms δ Q' :=
  fun X vs r d => (h X vs r d).mono fun _ _ _ ⟨m, δ', q, e, x⟩ => ⟨m, δ', k _ _ e q, e, x⟩
theorem Co.quiet {f : Value} {ms : List MV} {Q : MV → Ds → Prop} (h : Cq B A f ms fun m => Q m δ) : Co B A f ms δ Q := fun X vs r d =>
  ((h X vs r).mono fun v Y l ⟨m, q, rv⟩ => ⟨m, δ, q, rfl, rv, d.here l⟩).weak fun _ h => nomatch h
/-- the other dicts stand aside -/
theorem Co.frame {f : Value} {ms : List MV} {δr : Ds} {Q : MV → Ds → Prop} (h : Co B A f ms δ fun m δ' => Q m (δ' ++ δr)) : Co B A f ms (δ ++ δr) Q := fun X vs r d => by
  have nd := d.nodup
  have hdom : dom (δ ++ δr) = dom δ ++ dom δr := List.map_append ..
  rw [hdom, List.nodup_append] at nd
  have d1 : DictsAt δ X := ⟨fun p hp => d.at_ p (List.mem_append_left _ hp), nd.1⟩
  have d2 : DictsAt δr X := ⟨fun p hp => d.at_ p (List.mem_append_right _ hp), nd.2.1⟩
  refine ((h X vs r d1).mono fun v Y l ⟨m, δ', q, e, rv, H⟩ => ?_).weak fun a h => .inl (by rw [hdom]; exact List.mem_append_left _ h)
  have d2' : DictsAt δr Y := d2.next l fun a ha hb => nd.2.2 a hb a ha rfl
  refine ⟨m, δ' ++ δr, q, by rw [hdom, ← e]; exact List.map_append .., rv, fun p hp => ?_, ?_⟩
  · rcases List.mem_append.mp hp with h | h
    · exact H.at_ p h
    · exact d2'.at_ p h
  · rw [show dom (δ' ++ δr) = dom δ' ++ dom δr from List.map_append .., e, List.nodup_append]
    exact nd
theorem Co.frame0 {f : Value} {ms : List MV} {Q : MV → Ds → Prop} (h : Co B A f ms [] fun m _ => Q m δ) : Co B A f ms δ Q :=
  Co.frame (δ := []) (δr := δ) (h.mono fun m δ' e q => by
    have : δ' = [] := List.map_eq_nil_iff.mp e
    subst this
    exact q)

theorem evalArgs_any {env : Env} {f : Value} {pos : Pos} {args : List Expr} {M : Model} {E : Value → Shared → Prop} {s : Shared} {Q : Args → Shared → Prop} (hn : (backTo pos (starEach args env)).all (fun x => !x.1) = true)
    (h : wpAny M A (spliced (backTo pos (starEach args env))) (fun vs s' => Q ⟨vs, []⟩ s') E s) : wpAny M A (evalArgs f true (backTo pos (starEach args env)) []) Q E s := by
  cases hl : backTo pos (starEach args env) with
  | nil =>
    rw [hl] at h
    unfold evalArgs
    show wpAny M A (spliced [] >>= _) Q E s
    refine wpAny_bind (wpAny_mono h (fun vs s' h' => ?_) fun _ _ x => x)
    refine wpAny_bind (wpAny_pure ?_)
    refine wpAny_holding ?_
    exact wpAny_bind (wpAny_pure (wpAny_bind (wpAny_pure (wpAny_pure h'))))
  | cons x rest =>
    rw [hl] at h hn
    obtain ⟨b, t⟩ := x
    have : b = false := by simp at hn; exact hn.1
    subst this
    exact evalArgs_plain h

theorem inTail {x : Sem Value} {M : Model} {E : Value → Shared → Prop} {s : Shared} {Q : Value → Shared → Prop} (h : wpAny M A x Q E s) : wpAny M A x Q E s := h

/-- a call of a name of the top's or of a built-in -/
theorem Ev.call {f : Str} {fv : Value} {p pos : Pos} {args : List Expr} {Q : MV → Ds → Prop} (O : EnvOk env) (hk : env.kindOf f = some .globalImplicit) (hg : B.Glob f fv) (hkp : Kp B fv)
    (h : El B A env (spliced (backTo pos (starEach args env))) ρ δ fun ms δ' => Co B A fv ms δ' Q)
    (hn : (backTo pos (starEach args env)).all (fun x => !x.1) = true := by rfl) (hd : (f == ("__debug__" : Str)) = false := by decide) :
    Ev B A env (eval (.Call (.Name f p) args [] pos) env) ρ δ Q := fun X I tk => by
  refine wpAny_Call_NameR (evGlob O hk hg X ?_ hd)
  have hn' : ((backTo pos (starEach args env)).any (·.1) || ([] : List (Option Str × Sem Value)).any (·.1.isNone)) = false := by
    rw [List.any_nil, Bool.or_false, Bool.eq_false_iff]
    intro q
    obtain ⟨x, hx, e⟩ := List.any_eq_true.mp q
    have := List.all_eq_true.mp hn x hx
    rw [e] at this; cases this
  refine callWith_of (P := fun h => ∀ a o, B.hb.get? a = some o → h.get? a = some o) hn' (hkp _) (evalArgs_any hn ((h X I).into fun vs Y tk₁ l₁ ⟨ms, δ₁, hc, rl, I₁, n₁⟩ => ?_))
  exact ⟨Y.keepsB, (hc Y vs rl I₁.dicts).into fun v Z tk₂ l₂ ⟨m, δ₂, q, e, rv, H⟩ =>
    ⟨Z, _, rfl, l₁.trans l₂ n₁, m, δ₂, q, rv, I₁.next l₂ (fun _ h => h) H (NewDom.of_eq e), n₁.trans l₁ (NewDom.of_eq e)⟩⟩

/-- a method of obj by this name is f, handed obj -/
noncomputable def Gm (B : Bs) (A : Around) (m : MV) (name : Str) (f : Value) : Prop :=
  ∀ (X : Wd B) (u : Value) (pl : Sem Bool) (tk : Nat) (Q : Value × List Value → Shared → Prop) (E : Value → Shared → Prop), RepV B.C X.g m u → Q (f, [u]) (St B X.h tk) → wpAny B.M A (getMethod u name pl) Q E (St B X.h tk)
theorem Ev.meth {o : Expr} {name : Str} {fv : Value} {apos pos : Pos} {args : List Expr} {pl : Sem Bool} {Q : MV → Ds → Prop} (hkp : Kp B fv)
    (h : Ev B A env (eval o env) ρ δ fun m δ₁ => Gm B A m name fv ∧ El B A env (spliced (backTo pos (starEach args env))) ρ δ₁ fun ms δ' => Co B A fv (m :: ms) δ' Q)
    (he : eval (.Call (.Attribute o name apos) args [] pos) env = (do
      let ov ← eval o env
      standAt apos.atName
      let (f, first) ← holding [ov] (getMethod ov name pl)
      callWith pos f first (backTo pos (starEach args env)) (backToKw pos (keywordEach [] env))) := by rfl)
    (hn : (backTo pos (starEach args env)).all (fun x => !x.1) = true := by rfl) :
    Ev B A env (eval (.Call (.Attribute o name apos) args [] pos) env) ρ δ Q := fun X I tk => by
  refine PySem.W.methodCall_KW (pl := pl) ((h X I).into fun u W tk₀ l₀ ⟨m, δ₀, ⟨gm, h⟩, ru, I₀, n₀⟩ => gm W u pl tk₀ _ _ ru ?_) he
  have hn' : ((backTo pos (starEach args env)).any (·.1) || ([] : List (Option Str × Sem Value)).any (·.1.isNone)) = false := by
    rw [List.any_nil, Bool.or_false, Bool.eq_false_iff]
    intro q
    obtain ⟨x, hx, e⟩ := List.any_eq_true.mp q
    have := List.all_eq_true.mp hn x hx
    rw [e] at this; cases this
  refine callWith_of (P := fun h => ∀ a o, B.hb.get? a = some o → h.get? a = some o) hn' (hkp _) (evalArgs_any hn ((h W I₀).into fun vs Y tk₁ l₁ ⟨ms, δ₁, hc, rl, I₁, n₁⟩ => ?_))
  exact ⟨Y.keepsB, (hc Y (u :: vs) ⟨u, vs, rfl, l₁.repV ru, rl⟩ I₁.dicts).into fun v Z tk₂ l₂ ⟨m, δ₂, q, e, rv, H⟩ =>
    ⟨Z, _, rfl, (l₀.trans l₁ n₀).trans l₂ (n₀.trans l₀ n₁), m, δ₂, q, rv, I₁.next l₂ (fun _ h => h) H (NewDom.of_eq e), (n₀.trans l₀ n₁).trans (l₀.trans l₁ n₀) (NewDom.of_eq e)⟩⟩

/-- a def of the text -/
structure FnAt (B : Bs) (a : Addr) (ps : List Str) (body : List Stmt) (sc : Scope) : Prop where
  ex : ∃ o fd, B.hb.get? a = some o ∧ o.data = .func fd ∧ fd.body = .stmts body ∧ fd.scope = sc ∧ fd.globals = mainGlobals ∧ fd.closure = [] ∧ fd.builtins = builtinsNs ∧
    B.hb.CodeRec fd.code fd.qualname ∧ ∀ vals : List Value, vals.length = ps.length → bindArgs fd ⟨vals, []⟩ = pure (ps.zip vals)
theorem FnAt.kp {a : Addr} {ps : List Str} {body : List Stmt} {sc : Scope} (F : FnAt B a ps body sc) : Kp B (.ref a) := by
  obtain ⟨o, fd, h1, h2, _⟩ := F.ex
  exact Kp.func h1 h2

/-- the frame of a call -/
noncomputable abbrev fEnv (sc : Scope) (L : Addr) (qual : Str) (a : Addr) (code : Value) : Env :=
  { scope := sc, locals := L, globals := mainGlobals, cells := cellsFrom (L + 1) sc.names [], qual, func := some a, code, frame := some L, builtins := builtinsNs }

theorem bindL_off {k : Str → Option NameKind} {x : Str} : ∀ {binds : List (Str × Value)} {m : Str → Option Value}, x ∉ binds.map (·.1) → bindL k binds m x = m x
  | [], _, _ => rfl
  | (n, v) :: r, m, h => by
    unfold bindL
    rw [bindL_off (fun q => h (List.mem_cons_of_mem _ q))]
    split
    · exact if_neg fun q => h (by rw [q]; exact List.mem_cons_self)
    · rfl
theorem bindC_off {k : Str → Option NameKind} {x : Str} : ∀ {binds : List (Str × Value)} {m : Str → Option Value}, x ∉ binds.map (·.1) → bindC k binds m x = m x
  | [], _, _ => rfl
  | (n, v) :: r, m, h => by
    unfold bindC
    rw [bindC_off (fun q => h (List.mem_cons_of_mem _ q))]
    split
    · rfl
    · exact if_neg fun q => h (by rw [q]; exact List.mem_cons_self)
theorem bindL_at {k : Str → Option NameKind} {x : Str} {v : Value} (hk : k x = some .local) : ∀ {binds : List (Str × Value)} {m : Str → Option Value}, (binds.map (·.1)).Nodup → (x, v) ∈ binds → bindL k binds m x = some v
  | (n, u) :: r, m, hn, h => by
    rw [List.map_cons, List.nodup_cons] at hn
    unfold bindL
    rcases List.mem_cons.mp h with q | q
    · cases q
      rw [bindL_off hn.1, if_pos hk]
      exact if_pos rfl
    · exact bindL_at hk hn.2 q
theorem bindC_at {k : Str → Option NameKind} {x : Str} {v : Value} (hk : k x ≠ some .local) : ∀ {binds : List (Str × Value)} {m : Str → Option Value}, (binds.map (·.1)).Nodup → (x, v) ∈ binds → bindC k binds m x = some v
  | (n, u) :: r, m, hn, h => by
    rw [List.map_cons, List.nodup_cons] at hn
    unfold bindC
    rcases List.mem_cons.mp h with q | q
    · cases q
      rw [bindC_off hn.1, if_neg hk]
      exact if_pos rfl
    · exact bindC_at hk hn.2 q
theorem zip_rep {C : Cx} {g : Gh} : ∀ {ps : List Str} {ms : List MV} {vs : List Value}, RepL C g ms vs → ps.length = ms.length → ∀ x m, (ps.zip ms).lookup x = some m → ∃ v, (x, v) ∈ ps.zip vs ∧ RepV C g m v
  | [], [], vs, _, _, x, m, e => by simp at e
  | p :: ps, n :: ms, vs, ⟨v, r, ev, rv, rl⟩, hl, x, m, e => by
    subst ev
    rw [List.zip_cons_cons, List.lookup_cons] at e
    cases hb : x == p with
    | true => rw [hb] at e; cases e; exact ⟨v, by rw [beq_iff_eq.mp hb]; exact List.mem_cons_self, rv⟩
    | false =>
      rw [hb] at e
      obtain ⟨u, hu, ru⟩ := zip_rep rl (by simpa using hl) x m e
      exact ⟨u, List.mem_cons_of_mem _ hu, ru⟩
theorem map_fst_zip {α β : Type} : ∀ {l : List α} {k : List β}, l.length = k.length → (l.zip k).map (·.1) = l
  | [], [], _ => rfl
  | _ :: l, _ :: k, h => by rw [List.zip_cons_cons, List.map_cons, map_fst_zip (by simpa using h)]

/-- the code object of a frame -/
noncomputable def CodeAt (B : Bs) (cd : Value) : Prop := ∃ c o vs, cd = .ref c ∧ B.hb.get? c = some o ∧ o.data = .fields vs
/-- what is to hold behind a def's body -/
noncomputable abbrev FnQ (δ : Ds) (Q : MV → Ds → Prop) : MF → Vs → Ds → Prop := fun f _ δ' => ∃ δ₁ δ₂, δ' = δ₁ ++ δ₂ ∧ dom δ₁ = dom δ ∧ match f with | .ret m => Q m δ₁ | .next => Q .none δ₁ | _ => False
theorem Co.def_ {n : Nat} {a : Addr} {ps : List Str} {body : List Stmt} {sc : Scope} {ms : List MV} {Q : MV → Ds → Prop} (F : FnAt B a ps body sc) (hA : AOk (n + 1) A) (hl : ps.length = ms.length)
    (hk : sc.kind = .function) (hco : sc.isCoroutine = false) (hgen : sc.isGenerator = false) (hnd : ps.Nodup)
    (hps : ∀ L, ∀ x ∈ ps, sc.names.lookup x = some .local ∨ (sc.names.lookup x = some .cell ∧ ((cellsFrom (L + 1) sc.names []).lookup x).isSome = true))
    (hcn : ((cellsFrom 0 sc.names []).map (·.1)).Nodup)
    (h : ∀ A' L qual code, AOk n A' → EnvOk (fEnv sc L qual a code) → CodeAt B code → Ex B A' (fEnv sc L qual a code) (execs body (fEnv sc L qual a code)) (ps.zip ms) δ (FnQ δ Q)) : Co B A (.ref a) ms δ Q := fun X vs rl d tk => by
  obtain ⟨o, fd, ho, hd, hbody, hsc, hgl, hclo, hbl, hcd, hbind⟩ := F.ex
  subst hsc
  have hvl : ps.length = vs.length := hl.trans rl.length.symm
  have hcd' : X.h.CodeRec fd.code fd.qualname := let ⟨c, o, vs, t, e1, e2, r⟩ := hcd; ⟨c, o, vs, t, e1, X.keepsB _ _ e2, r⟩
  have hroom : A.depth < recursionLimit := by have := hA.hd; omega
  have hfst : (ps.zip vs).map (·.1) = ps := map_fst_zip hvl
  refine wpAny_call (codeAny_call_cells (binds := ps.zip vs) hroom (X.keepsB _ _ ho) hd (B.T.nolimit.keeps X.keepsB) hcd' hbody (hbind vs hvl.symm) hclo
    (fun x hx => hps _ x.1 (by rw [← hfst]; exact List.mem_map_of_mem hx)) (fun s₁ x => ?_) hco hgen hk)
  have henv : callEnvC fd X.h.objs.size a = fEnv fd.scope X.h.objs.size (fd.qualname ++ ".<locals>.") a fd.code := by unfold callEnvC newEnv; rw [hgl, hbl]
  rw [show (St B X.h tk).heap = X.h from rfl] at x ⊢
  rw [henv] at x ⊢
  obtain ⟨h₁, tk₁, rfl, hk₁⟩ := x.done
  have hL : h₁.Ns X.h.objs.size _ := x.toInCall.ns
  have O : EnvOk (fEnv fd.scope X.h.objs.size (fd.qualname ++ ".<locals>.") a fd.code) :=
    ⟨hk, rfl, rfl, fun y z c hy hz => name_of_addr x.apart (mem_of_lookup hy) (mem_of_lookup hz), PyProof.Rows.cellsFrom_names fd.scope.names 0 (X.h.objs.size + 1) [] [] rfl ▸ hcn⟩
  have gN : ∀ b, X.h.objs.size ≤ b → X.g b = none := fun b hb => by
    cases e : X.g b with
    | none => rfl
    | some o => exact absurd (Heap.lt_size (X.sub _ _ e)) (Nat.not_lt.mpr hb)
  have dN : ∀ b, X.h.objs.size ≤ b → b ∉ dom δ := fun b hb hm => by
    obtain ⟨p, hp, rfl⟩ := List.mem_map.mp hm
    obtain ⟨o, e⟩ := (d.at_ p hp).1.some_
    exact absurd (Heap.lt_size e) (Nat.not_lt.mpr hb)
  let Y : Wd B := X.more h₁ hk₁
  have lY : Le [] X Y := Wd.more_le X
  have I : Inv (fEnv fd.scope X.h.objs.size (fd.qualname ++ ".<locals>.") a fd.code) (ps.zip ms) δ Y := by
    refine ⟨fun y m e => ?_, ⟨dN _ (Nat.le_refl _), gN _ (Nat.le_refl _), _, hL⟩, fun y c hc => ?_, d.here lY⟩
    · obtain ⟨v, hv, rv⟩ := zip_rep rl hl y m e
      refine ⟨v, ?_, rv⟩
      have hy : y ∈ ps := by rw [← hfst]; exact List.mem_map_of_mem hv
      rcases hps X.h.objs.size y hy with q | ⟨q, q'⟩
      · exact .inl ⟨q, _, hL, bindL_at q (by rw [hfst]; exact hnd) hv⟩
      · obtain ⟨c, hc⟩ := Option.isSome_iff_exists.mp q'
        refine .inr ⟨.inl q, c, hc, ?_⟩
        have := x.cell y c hc
        rw [bindC_at (by show fd.scope.names.lookup y ≠ _; rw [q]; decide) (by rw [hfst]; exact hnd) hv] at this
        exact this
    · have hb := x.above y c (mem_of_lookup hc)
      exact ⟨gN c (Nat.le_of_lt hb), dN c (Nat.le_of_lt hb), _, x.cell y c hc⟩
  refine wpAny_mono ((h (A.deeper (fEnv fd.scope X.h.objs.size (fd.qualname ++ ".<locals>.") a fd.code)) _ _ _ hA.deeper O (let ⟨c, o, vs, t, e1, e2, e3, _⟩ := hcd; ⟨c, o, vs, e1, e2, e3⟩)) Y I tk₁) (fun f s' => ?_) fun _ _ q => q.elim
  rintro ⟨Z, tk₂, rfl, l₂, mf, ρ', δ', ⟨δ₁, δ₂, rfl, e, q⟩, rf, I₂, n₂⟩
  have lZ : Le (dom δ) X Z := by
    have lY' : Le (foot (fEnv fd.scope X.h.objs.size (fd.qualname ++ ".<locals>.") a fd.code) δ) X Y := Wd.more_le X _
    refine (lY'.trans l₂ fun b hb => .inl hb).weak ?_
    intro b hb
    rcases List.mem_cons.mp hb with hb | hb
    · subst hb; exact .inr (no_at_size _)
    · rcases List.mem_append.mp hb with hb | hb
      · obtain ⟨⟨y, c⟩, hc, rfl⟩ := List.mem_map.mp hb
        have := x.above y c hc
        refine .inr ?_
        cases e : X.h.get? c with
        | none => rfl
        | some o => exact absurd (Heap.lt_size e) (Nat.not_lt.mpr (Nat.le_of_lt this))
      · exact .inl hb
  have H : DictsAt δ₁ Z := ⟨fun p hp => I₂.dicts.at_ p (List.mem_append_left _ hp), by
    have := I₂.dicts.nodup
    rw [show dom (δ₁ ++ δ₂) = dom δ₁ ++ dom δ₂ from List.map_append .., List.nodup_append] at this
    exact this.1⟩
  cases mf with
  | ret m => obtain ⟨v, rfl, rv⟩ := rf; exact ⟨Z, _, rfl, lZ, m, δ₁, q, e, rv, H⟩
  | next => have : f = .next := rf; subst this; exact ⟨Z, _, rfl, lZ, .none, δ₁, q, e, rfl, H⟩
  | brk => exact q.elim
  | cont => exact q.elim
end
end Mine

/- part ME -/
namespace Mine
open PySem PySem.W PySem.Calls

/-- x[i] -/
noncomputable def Sb (B : Bs) (A : Around) (δ : Ds) (a b : MV) (P : MV → Prop) : Prop :=
  ∀ (X : Wd B) (u v : Value), RepV B.C X.g a u → RepV B.C X.g b v → DictsAt δ X →
    (∃ T id, (∀ tk, (St B X.h tk).TypeIs u T) ∧ typeLookup (.type T) "__getitem__" = pure (some (.builtin id))) ∧ Rn B A [] (getItem u v) X (VP B P)
/-- a field -/
noncomputable def At (B : Bs) (A : Around) (a : MV) (name : Str) (P : MV → Prop) : Prop :=
  ∀ (X : Wd B) (u : Value), RepV B.C X.g a u → Rn B A [] (getAttr u name true) X (fun r Y => ∃ m, P m ∧ RepV B.C Y.g m r)
noncomputable def Eo (B : Bs) (A : Around) (env : Env) (e : Option Expr) (ρ : Vs) (δ : Ds) (Q : MV → Ds → Prop) : Prop := Ev B A env (evalPart e env) ρ δ Q

section
variable {B : Bs} {A : Around} {env : Env} {ρ : Vs} {δ δ' : Ds} {Q : MV → Ds → Prop} {X Y : Wd B}
theorem Ev.sub {value slice : Expr} {pos : Pos} (h : Ev B A env (eval value env) ρ δ fun a δ₁ => Ev B A env (eval slice env) ρ δ₁ fun b δ₂ => Sb B A δ₂ a b fun m => Q m δ₂)
    (hs : ∀ u v, ∃ ops, subscripted slice false u v = operate ops (getItem u v) := by exact fun _ _ => ⟨_, rfl⟩) : Ev B A env (eval (.Subscript value slice pos) env) ρ δ Q := fun X I tk =>
  PyProof.Rows.Subscript_ ((h X I).into fun u Y tk₁ l₁ ⟨a, δ₁, h₁, ra, I₁, n₁⟩ => (h₁ Y I₁).into fun v Z tk₂ l₂ ⟨b, δ₂, h₂, rb, I₂, n₂⟩ => by
    obtain ⟨⟨T, id, hT, hl⟩, hg⟩ := h₂ Z u v (l₂.repV ra) rb I₂.dicts
    obtain ⟨ops, ho⟩ := hs u v
    exact PyProof.Rows.tail_any (hT tk₂) hl (hg.into fun w W tk₃ l₃ ⟨m, q, rm⟩ =>
      ⟨W, _, rfl, (l₁.trans l₂ n₁).trans (l₃.mono fun _ h => nomatch h) (n₁.trans l₁ n₂), m, δ₂, q, rm, I₂.here l₃, n₁.trans l₁ n₂⟩) ho)
theorem Eo.none_ (h : Q .none δ) : Eo B A env none ρ δ Q := fun X I tk => wpAny_pure ⟨X, _, rfl, Le.refl _ _, _, _, h, rfl, I, NewDom.refl _ _⟩
theorem Eo.some_ {e : Expr} (h : Ev B A env (eval e env) ρ δ Q) : Eo B A env (some e) ρ δ Q := h
theorem Ev.slice {lo up st : Option Expr} {pos : Pos} (h : Eo B A env lo ρ δ fun a δ₁ => Eo B A env up ρ δ₁ fun b δ₂ => Eo B A env st ρ δ₂ fun c δ₃ => Q (.slc a b c) δ₃) :
    Ev B A env (eval (.Slice lo up st pos) env) ρ δ Q := fun X I tk =>
  wpAny_Slice ((h X I).into fun u Y tk₁ l₁ ⟨a, δ₁, h₁, ra, I₁, n₁⟩ => (h₁ Y I₁).into fun v Z tk₂ l₂ ⟨b, δ₂, h₂, rb, I₂, n₂⟩ => (h₂ Z I₂).into fun w W tk₃ l₃ ⟨c, δ₃, q, rc, I₃, n₃⟩ => by
    have l₄ := Wd.push_le W { cls := .type "slice", data := .fields #[u, v, w] }
    have n₁₂ := n₁.trans l₁ n₂
    have l₁₂ := l₁.trans l₂ n₁
    have n₁₃ := n₁₂.trans l₁₂ n₃
    have l₁₃ := l₁₂.trans l₃ n₁₂
    refine ⟨W.push { cls := .type "slice", data := .fields #[u, v, w] }, tk₃, rfl, l₁₃.trans l₄ (fun _ h => nomatch h), ?_⟩
    exact ⟨_, δ₃, q, ⟨_, u, v, w, rfl, Wd.push_at W _, l₄.repV (l₃.repV (l₂.repV ra)), l₄.repV (l₃.repV rb), l₄.repV rc⟩, I₃.here l₄, n₁₃⟩)
theorem Ev.attr {value : Expr} {name : Str} {pos : Pos} (h : Ev B A env (eval value env) ρ δ fun a δ₁ => At B A a name fun m => Q m δ₁)
    (he : eval (.Attribute value name pos) env = (do
      let o ← eval value env
      standAt pos.atName
      let r ← holding [o] (getAttr o name true)
      letTemporaryGo value o r
      pure r) := by with_unfolding_all rfl) : Ev B A env (eval (.Attribute value name pos) env) ρ δ Q := fun X I tk =>
  PyProof.Rows.Attribute_any_ ((h X I).into fun u Y tk₁ l₁ ⟨a, δ₁, h₁, ra, I₁, n₁⟩ => (h₁ Y u ra).into fun w W tk₃ l₃ ⟨m, q, rm⟩ =>
      ⟨W, _, rfl, l₁.trans (l₃.mono fun _ h => nomatch h) n₁, m, δ₁, q, rm, I₁.here l₃, n₁⟩) he

/-- going over m, its items in order -/
noncomputable def It (B : Bs) (A : Around) (δ : Ds) (m : MV) (R : List MV → Prop) : Prop :=
  ∀ (X : Wd B) (v : Value), RepV B.C X.g m v → DictsAt δ X → Rn B A [] (pyIter v) X (fun it Y => ∃ items I fp P S, R items ∧ it = .ref I ∧ Walks PG B.w A I fp [I] items.length P S ∧ S 0 Y.h ∧
    (∀ b ∈ fp, b = I ∨ (∃ o, Y.g b = some o)) ∧ X.h.get? I = none ∧ Y.g I = none ∧ (∀ i h, S i h → ∃ o, h.get? I = some o) ∧
    ∀ i u, i < items.length → P i u → ∃ m', items[i]? = some m' ∧ RepV B.C Y.g m' u)

noncomputable def ForOk (B : Bs) (A : Around) (env : Env) (body : List Stmt) (x : Str) (Q : MF → Vs → Ds → Prop) : List MV → Vs → Ds → Prop
  | [], ρ, δ => Q .next ρ δ
  | m :: ms, ρ, δ => Ex B A env (execs body env) (setv ρ x m) δ fun f ρ' δ' => match f with
    | .next => ForOk B A env body x Q ms ρ' δ'
    | .cont => ForOk B A env body x Q ms ρ' δ'
    | .brk => Q .next ρ' δ'
    | .ret v => Q (.ret v) ρ' δ'

theorem foot_live {Q' : Prop} {a : Addr} (l : ∃ o, X.h.get? a = some o) (n : NewDom X δ δ') (h : a ∉ foot env δ) : a ∉ foot env δ' := fun q => by
  rcases foot_new n a q with q | q
  · exact h q
  · obtain ⟨o, e⟩ := l; rw [q] at e; cases e

theorem Inv.live {a : Addr} (O : EnvOk env) (I : Inv env ρ δ X) (h : a ∈ foot env δ) : ∃ o, X.h.get? a = some o := by
  rcases List.mem_cons.mp h with q | q
  · obtain ⟨_, _, m, o, _, _, ho, _⟩ := I.loc; exact ⟨o, q ▸ ho⟩
  · rcases List.mem_append.mp q with q | q
    · obtain ⟨⟨y, c⟩, hc, rfl⟩ := List.mem_map.mp q
      obtain ⟨_, _, _, o, ho, _⟩ := I.cells y c (PyProof.Rows.lookup_of_mem_nodup O.nodup hc)
      exact ⟨o, ho⟩
    · obtain ⟨p, hp, rfl⟩ := List.mem_map.mp q
      exact (I.dicts.at_ p hp).1.some_

/-- a heap changed off the frame -/
theorem Inv.to {J : Addr} {h₁ : Heap} (I : Inv env ρ δ X) (hk : ∀ a o, X.h.get? a = some o → a ∉ [J] → h₁.get? a = some o) (hD : ∀ a ∈ [J], X.g a = none) (hJ : J ∉ foot env δ) : Inv env ρ δ (X.to h₁ [J] hk hD) := by
  have nJ : ∀ a ∈ foot env δ, a ∉ [J] := fun a h q => hJ ((List.mem_singleton.mp q) ▸ h)
  refine ⟨fun y n e => ?_, ?_, fun y c hc => ?_, ⟨fun p hp => ?_, I.dicts.nodup⟩⟩
  · obtain ⟨w, hw, rw'⟩ := I.vars y n e
    refine ⟨w, hw.keep ?_, rw'⟩
    rintro a o (rfl | ⟨z, hz⟩) q
    · exact hk _ _ q (nJ _ List.mem_cons_self)
    · exact hk _ _ q (nJ _ (List.mem_cons_of_mem _ (List.mem_append_left _ (List.mem_map.mpr ⟨(z, a), mem_of_lookup hz, rfl⟩))))
  · obtain ⟨a, b, m, hm⟩ := I.loc
    exact ⟨a, b, m, hm.at' fun o q => hk _ _ q (nJ _ List.mem_cons_self)⟩
  · obtain ⟨a, b, w, o, ho, hd⟩ := I.cells y c hc
    exact ⟨a, b, w, o, hk _ _ ho (nJ _ (List.mem_cons_of_mem _ (List.mem_append_left _ (List.mem_map.mpr ⟨(y, c), mem_of_lookup hc, rfl⟩)))), hd⟩
  · obtain ⟨a, b, c⟩ := I.dicts.at_ p hp
    refine ⟨?_, b, c⟩
    have hn := nJ _ (dom_foot _ (List.mem_map_of_mem hp))
    cases hd : p.2 <;> (rw [hd] at a; obtain ⟨kvs, ⟨o, es, ep, ho, r⟩, q⟩ := a; exact ⟨kvs, ⟨o, es, ep, hk _ _ ho hn, r⟩, q⟩)
theorem Le.off {D : List Addr} {J : Addr} {h₁ : Heap} (l : Le D X Y) (hk : ∀ a o, Y.h.get? a = some o → a ∉ [J] → h₁.get? a = some o) (hD : ∀ a ∈ [J], Y.g a = none) (hJ : X.h.get? J = none) : Le D X (Y.to h₁ [J] hk hD) := by
  have ne : ∀ a o, X.h.get? a = some o → a ∉ [J] := fun a o e q => by rw [List.mem_singleton.mp q, hJ] at e; cases e
  exact ⟨fun a o e => let ⟨o', e'⟩ := l.live a o e; ⟨o', hk a o' e' (ne a o e)⟩, fun a o e n => hk a o (l.keep a o e n) (ne a o e), l.gh⟩

noncomputable abbrev FoI (B : Bs) (A : Around) (env : Env) (body : List Stmt) (x : Str) (Q : MF → Vs → Ds → Prop) (items : List MV) (S : Nat → Heap → Prop) (J : Addr) (δ : Ds) (X Z : Wd B) : Nat → Shared → Prop := fun k s' => ∃ i V ρ' δ' tk', s' = St B V.h tk' ∧ k = items.length - i ∧ i ≤ items.length ∧ S i V.h ∧ Inv env ρ' δ' V ∧ Le (foot env δ) X V ∧ NewDom X δ δ' ∧ (∀ a o, Z.g a = some o → V.g a = some o) ∧
      J ∉ foot env δ' ∧ V.g J = none ∧ ForOk B A env body x Q (items.drop i) ρ' δ'
theorem Ex.for_ {x : Str} {xp : Pos} {iter : Expr} {body : List Stmt} {pos : Pos} {Q : MF → Vs → Ds → Prop} (O : EnvOk env) (hA : A.handled = none) (hx : May env x)
    (h : Ev B A env (eval iter env) ρ δ fun m δ₁ => ∃ R, It B A δ₁ m R ∧ ∀ items, R items → ForOk B A env body x Q items ρ δ₁)
    (hs : ∀ v, foldedSetIterable iter env v = pure v := by intro _; rfl) : Ex B A env (exec (.For (.Name x xp) iter body [] pos) env) ρ δ Q := fun X I tk => by
  refine wpAny_For ((h X I).into fun v Y tk₁ l₁ ⟨m, δ₁, ⟨RR, hit, hfor⟩, rv, I₁, n₁⟩ => (hit Y v rv I₁.dicts).into fun it Z tk₂ l₂ ⟨items, J, fp, P, S, hRR, e, W, hS, hfp, hJ0, hJg, hob, hP⟩ => ?_) hs
  subst e
  replace hfor := hfor items hRR
  have I₂ := I₁.here l₂
  have lXZ : Le (foot env δ) X Z := (l₁.mono dom_foot).trans (l₂.mono fun _ h => nomatch h) (D' := []) fun _ h => nomatch h
  have hJX : X.h.get? J = none := by
    cases e : X.h.get? J with
    | none => rfl
    | some o => obtain ⟨o', e'⟩ := l₁.live _ _ e; rw [hJ0] at e'; cases e'
  have hJfoot : J ∉ foot env δ₁ := fun q => by
    obtain ⟨o, e⟩ := I₁.live O q
    rw [hJ0] at e; cases e
  refine codeAny_forLoop (FoI B A env body x Q items S J δ X Z) ?_ items.length ⟨0, Z, ρ, δ₁, tk₂, rfl, by simp, Nat.zero_le _, hS, I₂, lXZ, n₁, fun _ _ e => e, hJfoot, hJg, by simpa using hfor⟩
  rintro k s' ⟨i, V, ρ', δ', tk', rfl, rfl, hi, hSi, I₃, lXV, nXV, gZV, hJf, hJn, hf⟩
  have hfoot' : ∀ a ∈ foot env δ', a ∈ foot env δ ∨ X.h.get? a = none := foot_new nXV
  have D0 : ∀ a ∈ [J], V.g a = none := fun a h => by rw [List.mem_singleton.mp h]; exact hJn
  by_cases hlt : i < items.length
  · refine W.item i _ _ _ hlt hSi fun u h₁ tk₃ hPu hS₁ hk₁ => ?_
    obtain ⟨m', hm', ru⟩ := hP i u hlt hPu
    have hk : ∀ a o, V.h.get? a = some o → a ∉ [J] → h₁.get? a = some o := fun a o e n => hk₁ a o n e
    have I₄ := I₃.to hk D0 hJf
    have lV₁ := lXV.off hk D0 hJX
    have ru₁ : RepV B.C (V.to h₁ [J] hk D0).g m' u := RepV.mono (fun a o e => gZV a o e) m' ru
    refine wpAny_assign_Name ((storeVar O hx I₄ ru₁).into fun _ V₂ tk₄ l₅ ⟨I₅, e₅⟩ => ?_)
    have hd : items.drop i = m' :: items.drop (i + 1) := by
      rw [List.drop_eq_getElem_cons hlt]
      congr 1
      exact Option.some.inj ((List.getElem?_eq_getElem hlt).symm.trans hm')
    rw [hd] at hf
    have hS₂ : S (i + 1) V₂.h := W.frame _ _ _ hS₁ fun b hb o e => by
      rcases hfp b hb with q | ⟨o', q⟩
      · exact l₅.keep b o e (fun z => hJf (q ▸ z))
      · have q1 : (V.to h₁ [J] hk D0).g b = some o' := gZV b o' q
        have q2 : V₂.g b = some o' := e₅ ▸ q1
        have a1 := (V.to h₁ [J] hk D0).sub _ _ q1
        have a2 := V₂.sub _ _ q2
        rw [show (V.to h₁ [J] hk D0).h = h₁ from rfl, e] at a1; cases a1; exact a2
    have lV₂ : Le (foot env δ) X V₂ := lV₁.trans l₅ hfoot'
    have gZ₂ : ∀ a o, Z.g a = some o → V₂.g a = some o := fun a o e => e₅ ▸ gZV a o e
    have hJ₂n : V₂.g J = none := e₅ ▸ hJn
    refine (hf V₂ I₅).into fun f V₃ tk₅ l₆ ⟨mf, ρ'', δ'', q, rf, I₆, n₆⟩ => ?_
    have lV₃ : Le (foot env δ) X V₃ := lV₂.trans l₆ hfoot'
    have nV₃ : NewDom X δ δ'' := nXV.trans lV₂ n₆
    obtain ⟨oJ, hoJ⟩ := hob _ _ hS₂
    have hJ₃ : J ∉ foot env δ'' := foot_live (Q' := True) ⟨oJ, hoJ⟩ n₆ hJf
    have hS₃ : S (i + 1) V₃.h := W.frame _ _ _ hS₂ fun b hb o e => by
      rcases hfp b hb with q | ⟨o', q⟩
      · exact l₆.keep b o e (fun z => hJf (q ▸ z))
      · have q1 : V₂.g b = some o' := gZ₂ b o' q
        have a1 := V₂.sub _ _ q1
        rw [e] at a1; cases a1
        exact V₃.sub _ _ (l₆.g _ _ q1)
    have again : ForOk B A env body x Q (items.drop (i + 1)) ρ'' δ'' → ∃ m, m < items.length - i ∧ FoI B A env body x Q items S J δ X Z m (St B V₃.h tk₅) := fun q =>
      ⟨items.length - (i + 1), by omega, i + 1, V₃, ρ'', δ'', tk₅, rfl, rfl, hlt, hS₃, I₆, lV₃, nV₃, fun a o e => l₆.g _ _ (gZ₂ a o e), hJ₃, (l₆.gh _ _ hoJ).trans hJ₂n, q⟩
    cases mf with
    | ret mv => obtain ⟨w, rfl, rw'⟩ := rf; exact ⟨V₃, _, rfl, lV₃, .ret mv, ρ'', δ'', q, ⟨w, rfl, rw'⟩, I₆, nV₃⟩
    | brk => have : f = .brk := rf; subst this; exact ⟨V₃, _, rfl, lV₃, .next, ρ'', δ'', q, rfl, I₆, nV₃⟩
    | next => have : f = .next := rf; subst this; exact again q
    | cont => have : f = .cont := rf; subst this; exact again q
  · have hin : i = items.length := by omega
    subst hin
    refine W.done _ _ _ hSi fun h₁ tk₃ hk₁ => ?_
    have hk : ∀ a o, V.h.get? a = some o → a ∉ [J] → h₁.get? a = some o := fun a o e n => hk₁ a o n e
    have q : Q .next ρ' δ' := by
      have := hf
      rw [List.drop_length] at this
      exact this
    exact wpAny_execs_nil ⟨V.to h₁ [J] hk D0, tk₃, rfl, lXV.off hk D0 hJX, .next, ρ', δ', q, rfl, I₃.to hk D0 hJf, nXV⟩
end
end Mine

/- part MF -/
namespace Mine
open PySem PySem.W PySem.Calls

/-- the cells that a comprehension's block is handed -/
noncomputable def clOf (cells : List (Str × Addr)) : List (Str × NameKind) → List (Str × Addr) → List (Str × Addr)
  | [], acc => acc
  | (n, k) :: r, acc => if k == .free then clOf cells r (match cells.lookup n with | some c => (n, c) :: acc | none => acc) else clOf cells r acc

theorem closureFor_clOf {env : Env} : ∀ (names : List (Str × NameKind)) (acc : List (Str × Addr)), (∀ p ∈ names, p.2 = .free → (env.cells.lookup p.1).isSome = true) →
    (forIn (m := Sem) names acc fun (x : Str × NameKind) cs => if x.2 == .free then (do let c ← cellOf env x.1; pure (ForInStep.yield ((x.1, c) :: cs))) else pure (ForInStep.yield cs)) = pure (clOf env.cells names acc)
  | [], acc, _ => rfl
  | (n, k) :: r, acc, h => by
    rw [List.forIn_cons]
    unfold clOf
    cases hk : (k == NameKind.free) with
    | false =>
      simp only [hk, Bool.false_eq_true, if_false]
      exact closureFor_clOf r acc fun p hp => h p (List.mem_cons_of_mem _ hp)
    | true =>
      obtain ⟨c, hc⟩ := Option.isSome_iff_exists.mp (h (n, k) List.mem_cons_self (by simpa using hk))
      simp only [hk, if_true]
      have e : cellOf env n = pure c := by unfold cellOf; rw [hc]
      rw [e, hc]
      exact closureFor_clOf r ((n, c) :: acc) fun p hp => h p (List.mem_cons_of_mem _ hp)
theorem closureFor_is {env : Env} {scope : Scope} (h : ∀ p ∈ scope.names, p.2 = .free → (env.cells.lookup p.1).isSome = true) : closureFor scope env = pure (clOf env.cells scope.names []) := by
  have e := closureFor_clOf (env := env) scope.names [] h
  simp only [closureFor]
  rw [e]; rfl

theorem clOf_lookup {cells : List (Str × Addr)} {y : Str} : ∀ (names : List (Str × NameKind)) (acc : List (Str × Addr)), (∀ p ∈ names, p.2 = .free → (cells.lookup p.1).isSome = true) →
    (clOf cells names acc).lookup y = if (y, NameKind.free) ∈ names then cells.lookup y else acc.lookup y
  | [], acc, _ => by simp [clOf]
  | (n, k) :: r, acc, h => by
    unfold clOf
    have hr : ∀ p ∈ r, p.2 = .free → (cells.lookup p.1).isSome = true := fun p hp => h p (List.mem_cons_of_mem _ hp)
    cases hk : (k == NameKind.free) with
    | false =>
      simp only [Bool.false_eq_true, if_false]
      rw [clOf_lookup r acc hr]
      have hne : k ≠ .free := by simpa using hk
      by_cases hm : (y, NameKind.free) ∈ r
      · rw [if_pos hm, if_pos (List.mem_cons_of_mem _ hm)]
      · rw [if_neg hm, if_neg]
        intro q
        rcases List.mem_cons.mp q with q | q
        · cases q; exact hne rfl
        · exact hm q
    | true =>
      have hkf : k = .free := by simpa using hk
      subst hkf
      obtain ⟨c, hc⟩ := Option.isSome_iff_exists.mp (h (n, .free) List.mem_cons_self rfl)
      simp only [if_true, hc]
      rw [clOf_lookup r _ hr]
      by_cases hm : (y, NameKind.free) ∈ r
      · rw [if_pos hm, if_pos (List.mem_cons_of_mem _ hm)]
      · rw [if_neg hm, List.lookup_cons]
        by_cases hy : y = n
        · subst hy; simp [hc]
        · have : (y == n) = false := by simpa using hy
          rw [this, if_neg]
          intro q
          rcases List.mem_cons.mp q with q | q
          · cases q; exact hy rfl
          · exact hm q
theorem clOf_names {cells : List (Str × Addr)} : ∀ (names : List (Str × NameKind)) (acc : List (Str × Addr)), (∀ x ∈ names.map (·.1), x ∉ acc.map (·.1)) → (names.map (·.1)).Nodup → (acc.map (·.1)).Nodup → ((clOf cells names acc).map (·.1)).Nodup
  | [], acc, _, _, h => h
  | (n, k) :: r, acc, ha, hn, h => by
    unfold clOf
    rw [List.map_cons, List.nodup_cons] at hn
    have har : ∀ x ∈ r.map (·.1), x ∉ acc.map (·.1) := fun x hx => ha x (List.mem_cons_of_mem _ hx)
    split
    · split
      · rename_i c _
        refine clOf_names r _ (fun x hx q => ?_) hn.2 ?_
        · rw [List.map_cons] at q
          rcases List.mem_cons.mp q with q | q
          · subst q; exact hn.1 hx
          · exact har x hx q
        · rw [List.map_cons, List.nodup_cons]
          exact ⟨ha n List.mem_cons_self, h⟩
      · exact clOf_names r acc har hn.2 h
    · exact clOf_names r acc har hn.2 h

/-- what a comprehension's block is -/
noncomputable def cmpOk (scope : Scope) (env : Env) (x : Str) : Bool :=
  decide (scope.kind = .function) && decide (scope.names.lookup x = some .local) && decide ((scope.names.map (·.1)).Nodup) &&
    scope.names.all fun p => decide (p.2 ≠ .cell) && decide (scope.names.lookup p.1 = some p.2) && (decide (p.2 ≠ .free) || ((env.cells.lookup p.1).isSome && (decide (env.kindOf p.1 = some .cell) || decide (env.kindOf p.1 = some .free))))

structure CmpOk (scope : Scope) (env : Env) (x : Str) : Prop where
  kind : scope.kind = .function
  var : scope.names.lookup x = some .local
  nodup : (scope.names.map (·.1)).Nodup
  cell : ∀ p ∈ scope.names, p.2 ≠ .cell
  own : ∀ p ∈ scope.names, scope.names.lookup p.1 = some p.2
  free : ∀ p ∈ scope.names, p.2 = .free → (env.cells.lookup p.1).isSome = true
  kinds : ∀ p ∈ scope.names, p.2 = .free → env.kindOf p.1 = some .cell ∨ env.kindOf p.1 = some .free
theorem CmpOk.of {scope : Scope} {env : Env} {x : Str} (h : cmpOk scope env x = true) : CmpOk scope env x := by
  unfold cmpOk at h
  simp only [Bool.and_eq_true, decide_eq_true_eq] at h
  obtain ⟨⟨⟨h1, h2⟩, h3⟩, h4⟩ := h
  have h5 := List.all_eq_true.mp h4
  simp only [Bool.and_eq_true, decide_eq_true_eq, Bool.or_eq_true] at h5
  refine ⟨h1, h2, h3, fun p hp => (h5 p hp).1.1, fun p hp => (h5 p hp).1.2, fun p hp e => ?_, fun p hp e => ?_⟩
  · rcases (h5 p hp).2 with q | q
    · exact absurd e q
    · exact q.1
  · rcases (h5 p hp).2 with q | q
    · exact absurd e q
    · exact q.2

noncomputable def freeVs (scope : Scope) (ρ : Vs) : Vs := ρ.filter fun p => decide (scope.names.lookup p.1 = some .free)
theorem freeVs_lookup {scope : Scope} {y : Str} {m : MV} : ∀ {ρ : Vs}, (freeVs scope ρ).lookup y = some m → ρ.lookup y = some m ∧ scope.names.lookup y = some .free
  | (z, n) :: r, h => by
    unfold freeVs at h
    rw [List.filter_cons] at h
    rw [List.lookup_cons]
    split at h
    · rename_i hz
      have hz' : scope.names.lookup z = some .free := by simpa using hz
      rw [List.lookup_cons] at h
      cases hb : y == z with
      | true => rw [hb] at h; exact ⟨h, by rw [beq_iff_eq.mp hb]; exact hz'⟩
      | false => rw [hb] at h; exact freeVs_lookup h
    · rename_i hz
      have ih := freeVs_lookup (ρ := r) h
      cases hb : y == z with
      | true => exact absurd (by rw [← beq_iff_eq.mp hb]; simpa using ih.2) hz
      | false => exact ih

theorem relabel_free {env : Env} {y : Str} : ∀ {names : List (Str × NameKind)}, names.lookup y = some .free →
    (names.map fun (n, k) => if (k == NameKind.free && env.scope.kind == .function && env.kindOf n == some .cell) then (n, NameKind.cell) else (n, k)).lookup y = some .cell ∨
    (names.map fun (n, k) => if (k == NameKind.free && env.scope.kind == .function && env.kindOf n == some .cell) then (n, NameKind.cell) else (n, k)).lookup y = some .free
  | (n, k) :: r, h => by
    rw [List.lookup_cons] at h
    rw [List.map_cons]
    cases hb : y == n with
    | true =>
      rw [hb] at h
      cases h
      dsimp only
      split
      · rw [List.lookup_cons, hb]; exact .inl rfl
      · rw [List.lookup_cons, hb]; exact .inr rfl
    | false =>
      rw [hb] at h
      have ih := relabel_free (env := env) h
      dsimp only
      split <;> (rw [List.lookup_cons, hb]; exact ih)

noncomputable abbrev cEnv (scope : Scope) (C : Addr) (env : Env) : Env := compEnvC scope (clOf env.cells scope.names []) C env

section
variable {B : Bs} {A : Around} {env : Env} {ρ : Vs} {δ δ' : Ds} {X Y : Wd B}

theorem EnvOk.comp {scope : Scope} {x : Str} {C : Addr} (O : EnvOk env) (K : CmpOk scope env x) : EnvOk (cEnv scope C env) := by
  have sub : ∀ y c, (clOf env.cells scope.names []).lookup y = some c → env.cells.lookup y = some c := fun y c h => by
    rw [clOf_lookup _ _ K.free] at h
    split at h
    · exact h
    · cases h
  exact ⟨K.kind, O.glob, O.bltn, fun y z c hy hz => O.apart y z c (sub y c hy) (sub z c hz), clOf_names _ _ (fun _ _ q => nomatch q) K.nodup List.nodup_nil⟩

theorem Inv.comp {scope : Scope} {x : Str} {C : Addr} (K : CmpOk scope env x) (I : Inv env ρ δ X) (hC : C ∉ dom δ) (gC : X.g C = none) (hn : ∃ m, X.h.Ns C m) : Inv (cEnv scope C env) (freeVs scope ρ) δ X := by
  have look := fun y => clOf_lookup (cells := env.cells) (y := y) scope.names [] K.free
  refine ⟨fun y m e => ?_, ⟨hC, gC, hn⟩, fun y c hc => ?_, I.dicts⟩
  · obtain ⟨e1, e2⟩ := freeVs_lookup e
    obtain ⟨v, hv, rv⟩ := I.vars y m e1
    have hm : (y, NameKind.free) ∈ scope.names := mem_of_lookup e2
    refine ⟨v, .inr ⟨relabel_free e2, ?_⟩, rv⟩
    rcases hv with ⟨a, _⟩ | ⟨a, c, hc, hv⟩
    · rcases K.kinds _ hm rfl with q | q <;> (rw [a] at q; cases q)
    · exact ⟨c, (look y).trans ((if_pos hm).trans hc), hv⟩
  · have hc' : (clOf env.cells scope.names []).lookup y = some c := hc
    rw [look y] at hc'
    split at hc'
    · exact I.cells y c hc'
    · cases hc'

theorem storeLoc {x : Str} {m : MV} {v : Value} (O : EnvOk env) (hx : env.kindOf x = some .local) (I : Inv env ρ δ X) (r : RepV B.C X.g m v) :
    Rn B A [env.locals] (storeName env x v) X (fun _ Y => Inv env (setv ρ x m) δ Y ∧ Y.g = X.g) := fun tk => by
  obtain ⟨nL, gL, mL, hL⟩ := I.loc
  refine wpAny_storeName_local hx hL (fun h' hn hs => ?_) (by rw [O.kind]; rfl)
  have D0 : ∀ a ∈ [env.locals], X.g a = none := fun a h => by rw [List.mem_singleton.mp h]; exact gL
  have k0 : ∀ a o, X.h.get? a = some o → a ∉ [env.locals] → h'.get? a = some o := fun a o e n => (hs.2 a (fun q => n (List.mem_singleton.mpr q))).trans e
  have lv : ∀ a ∈ [env.locals], ∀ o, X.h.get? a = some o → ∃ o', h'.get? a = some o' := fun a h _ _ => by
    rw [List.mem_singleton.mp h]
    obtain ⟨o, _, _, ho, _⟩ := hn
    exact ⟨o, ho⟩
  refine ⟨X.to h' [env.locals] k0 D0, _, rfl, Wd.to_le X lv, ⟨fun y n e => ?_, ⟨nL, gL, _, hn⟩, fun y c hc => ?_, ?_⟩, rfl⟩
  · rw [setv_lookup] at e
    by_cases hy : y = x
    · subst hy; rw [if_pos rfl] at e; cases e
      exact ⟨v, .inl ⟨hx, _, hn, if_pos rfl⟩, r⟩
    · rw [if_neg hy] at e
      obtain ⟨u, hu, ru⟩ := I.vars y n e
      refine ⟨u, ?_, ru⟩
      rcases hu with ⟨a, m', hm', em⟩ | ⟨a, c, hc, hv⟩
      · refine .inl ⟨a, _, hn, ?_⟩
        rw [if_neg hy]
        have : mL = m' := by
          funext z
          obtain ⟨o, es, ep, ho, hd, hk, hf⟩ := hL
          obtain ⟨o', es', ep', ho', hd', hk', hf'⟩ := hm'
          rw [ho] at ho'; cases ho'; rw [hd] at hd'; cases hd'
          exact (hf z).symm.trans (hf' z)
        rw [this]; exact em
      · exact .inr ⟨a, c, hc, hv.sameBut hs (isCell_ne_ns hv hL)⟩
  · obtain ⟨gc, nc, u, hu⟩ := I.cells y c hc
    exact ⟨gc, nc, u, hu.sameBut hs (isCell_ne_ns hu hL)⟩
  · exact I.dicts.next (Wd.to_le X (hk := k0) (hD := D0) lv) fun a h q => nL ((List.mem_singleton.mp q) ▸ h)

/-- the block of a comprehension: its tests, its element -/
noncomputable def CpOk (B : Bs) (A : Around) (cenv : Env) (x : Str) (ifs : List Expr) (elt : Expr) (ρc : Vs) (Q : List MV → Ds → Prop) : List MV → List MV → Ds → Prop
  | [], acc, δ => Q acc δ
  | m :: ms, acc, δ => match ifs with
    | [] => Ev B A cenv (eval elt cenv) (setv ρc x m) δ fun y δ₁ => CpOk B A cenv x ifs elt ρc Q ms (acc ++ [y]) δ₁
    | [c] => Et B A cenv (isTrue c cenv (eval c cenv)) (setv ρc x m) δ fun b δ₁ =>
        if b then Ev B A cenv (eval elt cenv) (setv ρc x m) δ₁ fun y δ₂ => CpOk B A cenv x ifs elt ρc Q ms (acc ++ [y]) δ₂ else CpOk B A cenv x ifs elt ρc Q ms acc δ₁
    | _ => False
end
end Mine

/- part MG -/
namespace Mine
open PySem PySem.W PySem.Calls

section
variable {B : Bs} {A : Around} {env : Env} {ρ : Vs} {δ δ' : Ds} {X Y : Wd B}

theorem tests_ {cenv : Env} {ifs : List Expr} {elt : Expr} {x : Str} {ρc : Vs} {Q : List MV → Ds → Prop} {m : MV} {ms acc : List MV} (h : CpOk B A cenv x ifs elt ρc Q (m :: ms) acc δ) {V : Wd B} (I : Inv cenv (setv ρc x m) δ V) :
    Rn B A (dom δ) (forIn ifs true fun c r => if r = true then do let ok ← isTrue c cenv (eval c cenv); pure (ForInStep.yield ok) else pure (ForInStep.yield r)) V
      (fun b W => ∃ δ₁, Inv cenv (setv ρc x m) δ₁ W ∧ NewDom V δ δ₁ ∧ if b then Ev B A cenv (eval elt cenv) (setv ρc x m) δ₁ fun y δ₂ => CpOk B A cenv x ifs elt ρc Q ms (acc ++ [y]) δ₂ else CpOk B A cenv x ifs elt ρc Q ms acc δ₁) := by
  match ifs, h with
  | [], h => exact fun tk => wpAny_tests_nil ⟨V, tk, rfl, Le.refl _ _, δ, I, NewDom.refl _ _, h⟩
  | [c], h => exact fun tk => wpAny_tests_one ((h V I).into fun b W tk' l ⟨δ₁, q, I₁, n₁⟩ => ⟨W, tk', rfl, l, δ₁, I₁, n₁, q⟩)

theorem dom_live {a : Addr} (l : ∃ o, X.h.get? a = some o) (n : NewDom X δ δ') (h : a ∉ dom δ) : a ∉ dom δ' := fun q => by
  rcases n a q with q | q
  · exact h q
  · obtain ⟨o, e⟩ := l; rw [q] at e; cases e

theorem NewDom.step {δ'' : Ds} (lv : ∀ a o, X.h.get? a = some o → ∃ o', Y.h.get? a = some o') (a : NewDom X δ δ') (b : NewDom Y δ' δ'') : NewDom X δ δ'' := fun x h => by
  rcases b x h with q | q
  · exact a x q
  · refine .inr ?_
    cases e : X.h.get? x with
    | none => rfl
    | some o => obtain ⟨o', e'⟩ := lv x o e; rw [q] at e'; cases e'

noncomputable abbrev CbI (B : Bs) (A : Around) (env : Env) (scope : Scope) (x : Str) (ifs : List Expr) (elt : Expr) (ρ : Vs) (δ : Ds) (X Y : Wd B) (Q : List MV → Ds → Prop) (items : List MV) (S : Nat → Heap → Prop) (J D C : Addr) : Nat → Shared → Prop := fun k s' =>
  ∃ i V δ' tk' acc ys, s' = St B V.h tk' ∧ k = items.length - i ∧ i ≤ items.length ∧ S i V.h ∧ Inv env ρ δ' V ∧ Inv (cEnv scope C env) (freeVs scope ρ) δ' V ∧ Le (dom δ) X V ∧ NewDom Y δ δ' ∧ (∀ a o, Y.h.get? a = some o → ∃ o', V.h.get? a = some o') ∧
        (∀ a o, Y.g a = some o → V.g a = some o) ∧ J ∉ foot env δ' ∧ D ∉ foot env δ' ∧ C ∉ foot env δ' ∧ V.g J = none ∧ V.g D = none ∧ V.h.PlainList D ys ∧ RepL B.C V.g acc ys.toList ∧ ys.size ≤ i ∧
        CpOk B A (cEnv scope C env) x ifs elt (freeVs scope ρ) Q (items.drop i) acc δ'
theorem comp_block {scope : Scope} {x : Str} {xp : Pos} {iter elt : Expr} {ifs : List Expr} {pos : Pos} {items : List MV} {Q : List MV → Ds → Prop} {J : Addr} {fp : List Addr} {P : Nat → Value → Prop} {S : Nat → Heap → Prop}
    {E : Value → Shared → Prop} {RR : Value → Addr → Result → Shared → Prop} {tk : Nat} (O : EnvOk env) (K : CmpOk scope env x) (I : Inv env ρ δ Y) (l₀ : Le (dom δ) X Y) (hJX : X.h.get? J = none) (hJf : J ∉ foot env δ)
    (W : Walks PG B.w A J fp [J] items.length P S) (hS : S 0 Y.h) (hfp : ∀ b ∈ fp, b = J ∨ (∃ o, Y.g b = some o)) (hJg : Y.g J = none) (hob : ∀ i h, S i h → ∃ o, h.get? J = some o)
    (hP : ∀ i u, i < items.length → P i u → ∃ m', items[i]? = some m' ∧ RepV B.C Y.g m' u) (hz : items.length ≤ sizeLine)
    (hc : ∀ C, CpOk B A (cEnv scope C env) x ifs elt (freeVs scope ρ) Q items [] δ)
    (hRR : ∀ D C (V : Wd B) tk' ms ys δ' m, Q ms δ' → Le (dom δ) X V → Inv env ρ δ' V → NewDom Y δ δ' → X.h.get? D = none → X.h.get? C = none → D ≠ C → V.h.Ns C m → V.g C = none → V.g D = none → D ∉ foot env δ' → C ∉ foot env δ' →
      V.h.PlainList D ys → RepL B.C V.g ms ys.toList → RR (.ref D) C (.ok .next) (St B V.h tk')) :
    wpAny B.M A (newList []) (fun acc s₃ => wpAny B.M A (newFunctionEnv scope env.globals (clOf env.cells scope.names []) [] env.qual none .none (some env)) (fun cenv s₄ =>
      codeAny B.M A (.compStart (.ListComp elt [⟨.Name x xp, iter, ifs, 0⟩] scope pos) 0 (.ref J) acc { cenv with scope := relabel scope env }) (RR acc cenv.locals) s₄) E s₃) E (St B Y.h tk) := by
  refine wpAny_newObj_type (wpAny_newFunctionEnv K.cell (by intro y hy; simp at hy) (fun h₁ hns₁ hsb₁ => ?_) K.kind)
  dsimp only at hns₁ hsb₁ ⊢
  generalize hH2 : Y.h.push { cls := .type "list", dict := none, data := .seq ([] : List Value).toArray } = H2 at hns₁ hsb₁ ⊢
  have hCz : H2.objs.size = Y.h.objs.size + 1 := by rw [← hH2, Heap.size_push]
  have hDC : Y.h.objs.size ≠ H2.objs.size := by rw [hCz]; exact Nat.ne_of_lt (Nat.lt_succ_self _)
  generalize hD : Y.h.objs.size = D at hCz hDC ⊢
  generalize hC : H2.objs.size = C at hns₁ hsb₁ hCz hDC ⊢
  have below : ∀ b, b < D → b ≠ C ∧ b ≠ D := fun b hb => ⟨by rw [hCz]; exact Nat.ne_of_lt (Nat.lt_succ_of_lt hb), Nat.ne_of_lt hb⟩
  have ltD : ∀ b o, Y.h.get? b = some o → b < D := fun b o e => hD ▸ Heap.lt_size e
  have old : ∀ b o, Y.h.get? b = some o → h₁.get? b = some o := fun b o e => hsb₁.extBut b o (below b (ltD b o e)).1 (Heap.get?_push_of_some _ (hH2 ▸ Heap.get?_push_of_some _ e))
  have hacc : h₁.PlainList D #[] := ⟨_, hsb₁.extBut _ _ hDC (Heap.get?_push_of_some _ (hH2 ▸ hD ▸ Heap.get?_push_size _ rfl))⟩
  have noY : ∀ b, D ≤ b → Y.h.get? b = none := fun b hb => by
    cases e : Y.h.get? b with
    | none => rfl
    | some o => exact absurd (ltD b o e) (Nat.not_lt.mpr hb)
  have noX : ∀ b, Y.h.get? b = none → X.h.get? b = none := fun b e => by
    cases q : X.h.get? b with
    | none => rfl
    | some o => obtain ⟨o', e'⟩ := l₀.live b o q; rw [e] at e'; cases e'
  have noG : ∀ b, Y.h.get? b = none → Y.g b = none := fun b e => by
    cases q : Y.g b with
    | none => rfl
    | some o => rw [Y.sub _ _ q] at e; cases e
  have hDY := noY D (Nat.le_refl _)
  have hCY := noY C (by rw [hCz]; exact Nat.le_succ _)
  have notFoot : ∀ b, Y.h.get? b = none → b ∉ foot env δ := fun b e q => by obtain ⟨o, e'⟩ := I.live O q; rw [e] at e'; cases e'
  let V₀ : Wd B := Y.more h₁ old
  have lV₀ : Le [] Y V₀ := Wd.more_le Y
  have I₀ : Inv env ρ δ V₀ := I.here lV₀
  have lX₀ : Le (dom δ) X V₀ := l₀.trans lV₀ fun _ h => nomatch h
  have hS₀ : S 0 V₀.h := W.frame _ _ _ hS fun b _ o e => old b o e
  obtain ⟨oJ, hoJ⟩ := hob _ _ hS
  have hJD : J ≠ D := Nat.ne_of_lt (ltD J oJ hoJ)
  have hJC : J ≠ C := (below J (ltD J oJ hoJ)).1
  have Ic₀ : Inv (cEnv scope C env) (freeVs scope ρ) δ V₀ := I₀.comp K (fun q => notFoot C hCY (dom_foot C q)) (noG C hCY) ⟨_, hns₁⟩
  have Oc : EnvOk (cEnv scope C env) := O.comp K
  have hxl : (cEnv scope C env).kindOf x = some .local := lookup_relabel_local K.var
  have hxf : ∀ y m, (freeVs scope ρ).lookup y = some m → y ≠ x := fun y m e q => by
    have := (freeVs_lookup e).2
    rw [q, K.var] at this; cases this
  have cells_sub : ∀ δ a, a ∈ foot (cEnv scope C env) δ → a = C ∨ a ∈ foot env δ := fun δ a h => by
    rcases List.mem_cons.mp h with q | q
    · exact .inl q
    · rcases List.mem_append.mp q with q | q
      · obtain ⟨⟨y, c⟩, hc, rfl⟩ := List.mem_map.mp q
        have := PyProof.Rows.lookup_of_mem_nodup Oc.nodup hc
        have h2 : (clOf env.cells scope.names []).lookup y = some c := this
        rw [clOf_lookup _ _ K.free] at h2
        split at h2
        · exact .inr (List.mem_cons_of_mem _ (List.mem_append_left _ (List.mem_map.mpr ⟨(y, c), mem_of_lookup h2, rfl⟩)))
        · cases h2
      · exact .inr (dom_foot _ q)
  have loop : ∀ s₃ : Shared, s₃ = St B h₁ (tk + ([] : List (Str × Value)).length) →
      codeAny B.M A (.compLoop (.ListComp elt [⟨.Name x xp, iter, ifs, 0⟩] scope pos) 0 (.ref J) (.ref D) (cEnv scope C env)) (RR (.ref D) C) s₃ := by
    rintro s₃ rfl
    refine codeAny_compLoop_tests (CbI B A env scope x ifs elt ρ δ X Y Q items S J D C) ?_ items.length
      ⟨0, V₀, δ, _, [], #[], rfl, by simp, Nat.zero_le _, hS₀, I₀, Ic₀, lX₀, NewDom.refl _ _, fun a o e => ⟨o, old a o e⟩, fun _ _ e => e, hJf, notFoot D hDY, notFoot C hCY, hJg, noG D hDY, hacc, rfl, Nat.le_refl _, by simpa using hc C⟩
    rintro k s' ⟨i, V, δ₁, tk', acc, ys, rfl, rfl, hi, hSi, I₁, Ic₁, lX₁, n₁, lvY, gYV, hJ₁, hD₁, hC₁, hJn, hDn, hpl, hrl, hys, hcp⟩
    have D0 : ∀ a ∈ [J], V.g a = none := fun a h => by rw [List.mem_singleton.mp h]; exact hJn
    have hJc : J ∉ foot (cEnv scope C env) δ₁ := fun q => (cells_sub _ _ q).elim hJC hJ₁
    obtain ⟨nD, hDobj⟩ := id hpl
    by_cases hlt : i < items.length
    · refine W.item i _ _ _ hlt hSi fun u h₂ tk₃ hPu hS₁ hk₁ => ?_
      obtain ⟨m', hm', ru⟩ := hP i u hlt hPu
      have hk : ∀ a o, V.h.get? a = some o → a ∉ [J] → h₂.get? a = some o := fun a o e n => hk₁ a o n e
      let V₁ : Wd B := V.to h₂ [J] hk D0
      have I₂ : Inv env ρ δ₁ V₁ := I₁.to hk D0 hJ₁
      have Ic₂ : Inv (cEnv scope C env) (freeVs scope ρ) δ₁ V₁ := Ic₁.to hk D0 hJc
      have lX₂ : Le (dom δ) X V₁ := lX₁.off hk D0 hJX
      have ru₁ : RepV B.C V₁.g m' u := RepV.mono (fun a o e => gYV a o e) m' ru
      refine wpAny_assign_Name ((storeLoc Oc hxl Ic₂ ru₁).into fun _ V₂ tk₄ l₃ ⟨Ic₃, e₃⟩ => ?_)
      have lX₃ : Le (dom δ) X V₂ := lX₂.trans l₃ fun a h => .inr (by rw [List.mem_singleton.mp h]; exact noX C hCY)
      have g₃ : ∀ a o, Y.g a = some o → V₂.g a = some o := fun a o e => e₃ ▸ gYV a o e
      have keepS : ∀ (T T' : Wd B), (∀ a o, Y.g a = some o → T.g a = some o) → (∀ a o, T.g a = some o → T'.g a = some o) → (∀ o, T.h.get? J = some o → T'.h.get? J = some o) → ∀ b ∈ fp, ∀ o, T.h.get? b = some o → T'.h.get? b = some o := by
        intro T T' a1 a2 a3 b hb o e
        rcases hfp b hb with q | ⟨o', q⟩
        · subst q; exact a3 o e
        · have q1 := a1 b o' q
          have := T.sub _ _ q1
          rw [e] at this; cases this
          exact T'.sub _ _ (a2 _ _ q1)
      have hS₂ : S (i + 1) V₂.h := W.frame _ _ _ hS₁ (keepS V₁ V₂ (fun a o e => gYV a o e) (fun a o e => e₃ ▸ e) fun o e => l₃.keep _ _ e fun q => hJC (List.mem_singleton.mp q))
      have I₃ : Inv env ρ δ₁ V₂ := by
        refine ⟨fun y n e => ?_, ?_, fun y c hc => ?_, Ic₃.dicts⟩
        · obtain ⟨w, hw, rw'⟩ := I₂.vars y n e
          refine ⟨w, hw.keep ?_, RepV.mono (fun a o e => e₃ ▸ e) n rw'⟩
          rintro a o (rfl | ⟨z, hz⟩) q
          · exact l₃.keep _ _ q fun z => hC₁ ((List.mem_singleton.mp z : env.locals = C) ▸ List.mem_cons_self)
          · exact l₃.keep _ _ q fun z' => hC₁ ((List.mem_singleton.mp z' : a = C) ▸ List.mem_cons_of_mem _ (List.mem_append_left _ (List.mem_map.mpr ⟨(z, a), mem_of_lookup hz, rfl⟩)))
        · obtain ⟨a, b, m, hm⟩ := I₂.loc
          exact ⟨a, e₃ ▸ b, m, hm.at' fun o q => l₃.keep _ _ q fun z => hC₁ ((List.mem_singleton.mp z : env.locals = C) ▸ List.mem_cons_self)⟩
        · obtain ⟨a, b, w, o, ho, hd⟩ := I₂.cells y c hc
          exact ⟨e₃ ▸ a, b, w, o, l₃.keep _ _ ho fun z' => hC₁ ((List.mem_singleton.mp z' : c = C) ▸ List.mem_cons_of_mem _ (List.mem_append_left _ (List.mem_map.mpr ⟨(y, c), mem_of_lookup hc, rfl⟩))), hd⟩
      have hd : items.drop i = m' :: items.drop (i + 1) := by
        rw [List.drop_eq_getElem_cons hlt]
        congr 1
        exact Option.some.inj ((List.getElem?_eq_getElem hlt).symm.trans hm')
      rw [hd] at hcp
      have hpl₂ : V₂.h.get? D = some _ := l₃.keep _ _ (hk _ _ hDobj fun q => hJD (List.mem_singleton.mp q).symm) fun q => hDC (List.mem_singleton.mp q)
      refine (tests_ hcp Ic₃).into fun b V₃ tk₅ l₄ ⟨δ₂, Ic₄, n₄, hb⟩ => ?_
      have I₄ : Inv env ρ δ₂ V₃ := I₃.next l₄ (fun _ h => h) Ic₄.dicts n₄
      have lX₄ : Le (dom δ) X V₃ := lX₃.trans l₄ fun a h => by
        rcases n₁ a h with q | q
        · exact .inl q
        · exact .inr (noX a q)
      have lv₂ : ∀ a o, Y.h.get? a = some o → ∃ o', V₂.h.get? a = some o' := fun a o e => by
        by_cases hJa : a = J
        · subst hJa; exact hob _ _ hS₂
        · obtain ⟨o', e'⟩ := lvY a o e
          exact l₃.live a o' (hk a o' e' fun q => hJa (List.mem_singleton.mp q))
      have lv₃ : ∀ a o, Y.h.get? a = some o → ∃ o', V₃.h.get? a = some o' := fun a o e => let ⟨o', e'⟩ := lv₂ a o e; l₄.live a o' e'
      have nY₃ : NewDom Y δ δ₂ := NewDom.step lv₂ n₁ n₄
      have g₄ : ∀ a o, Y.g a = some o → V₃.g a = some o := fun a o e => l₄.g _ _ (g₃ a o e)
      have hJ₂ : J ∉ foot env δ₂ := foot_live (Q' := True) (hob _ _ hS₂) n₄ hJ₁
      have hD₂ : D ∉ foot env δ₂ := foot_live (Q' := True) ⟨_, hpl₂⟩ n₄ hD₁
      obtain ⟨_, _, mC, hC₂⟩ := Ic₃.loc
      obtain ⟨oC, _, _, hoC, _⟩ := id hC₂
      have hC₃ : C ∉ foot env δ₂ := foot_live (Q' := True) ⟨oC, hoC⟩ n₄ hC₁
      have hS₃ : S (i + 1) V₃.h := W.frame _ _ _ hS₂ (keepS V₂ V₃ g₃ l₄.g fun o e => l₄.keep _ _ e fun q => hJ₁ (dom_foot _ q))
      have hpl₃ : V₃.h.get? D = some _ := l₄.keep _ _ hpl₂ fun q => hD₁ (dom_foot _ q)
      obtain ⟨oJ₂, hoJ₂⟩ := hob _ _ hS₂
      have hJn₃ : V₃.g J = none := (l₄.gh _ _ hoJ₂).trans (e₃ ▸ hJn)
      have hDn₃ : V₃.g D = none := (l₄.gh _ _ hpl₂).trans (e₃ ▸ hDn)
      have hrl₃ : RepL B.C V₃.g acc ys.toList := RepL.mono l₄.g acc (RepL.mono (fun a o e => e₃ ▸ e) acc hrl)
      have lessc : ∀ {δ : Ds} {T : Wd B}, Inv (cEnv scope C env) (setv (freeVs scope ρ) x m') δ T → Inv (cEnv scope C env) (freeVs scope ρ) δ T := fun I => I.less fun y n e => by
        rw [setv_lookup, if_neg (hxf y n e)]; exact e
      cases b with
      | false =>
        simp only [Bool.false_eq_true, if_false]
        refine ⟨items.length - (i + 1), by omega, i + 1, V₃, δ₂, tk₅, acc, ys, rfl, rfl, hlt, hS₃, I₄, lessc Ic₄, lX₄, nY₃, lv₃, g₄, hJ₂, hD₂, hC₃, hJn₃, hDn₃, ⟨nD, hpl₃⟩, hrl₃, by omega, ?_⟩
        simpa using hb
      | true =>
        simp only [if_true]
        refine (hb V₃ Ic₄).into fun y V₄ tk₆ l₅ ⟨my, δ₃, q, ry, Ic₅, n₅⟩ => ?_
        have I₅ : Inv env ρ δ₃ V₄ := I₄.next l₅ (fun _ h => h) Ic₅.dicts n₅
        have lX₅ : Le (dom δ) X V₄ := lX₄.trans l₅ fun a h => by
          rcases nY₃ a h with q | q
          · exact .inl q
          · exact .inr (noX a q)
        have hJ₄ : J ∉ foot env δ₃ := foot_live (Q' := True) (hob _ _ hS₃) n₅ hJ₂
        have hD₄ : D ∉ foot env δ₃ := foot_live (Q' := True) ⟨_, hpl₃⟩ n₅ hD₂
        obtain ⟨_, _, mC₄, hC₄⟩ := Ic₄.loc
        obtain ⟨oC₄, _, _, hoC₄, _⟩ := id hC₄
        have hC₅ : C ∉ foot env δ₃ := foot_live (Q' := True) ⟨oC₄, hoC₄⟩ n₅ hC₃
        have hpl₄ : V₄.h.get? D = some _ := l₅.keep _ _ hpl₃ fun q => hD₂ (dom_foot _ q)
        have hDn₄ : V₄.g D = none := (l₅.gh _ _ hpl₃).trans hDn₃
        have hS₄ : S (i + 1) V₄.h := W.frame _ _ _ hS₃ (keepS V₃ V₄ g₄ l₅.g fun o e => l₅.keep _ _ e fun q => hJ₂ (dom_foot _ q))
        obtain ⟨oJ₃, hoJ₃⟩ := hob _ _ hS₃
        refine wpAny_list_append_plain (items := ys) ⟨nD, hpl₄⟩ (fun h₆ hpl₆ hs₆ => ?_) (Nat.le_trans hys (Nat.le_trans (Nat.le_of_lt hlt) hz))
        have hkD : ∀ a o, V₄.h.get? a = some o → a ∉ [D] → h₆.get? a = some o := fun a o e n => (hs₆.2 a fun q => n (List.mem_singleton.mpr q)).trans e
        have D0D : ∀ a ∈ [D], V₄.g a = none := fun a h => by rw [List.mem_singleton.mp h]; exact hDn₄
        have hDc : D ∉ foot (cEnv scope C env) δ₃ := fun q => (cells_sub _ _ q).elim hDC hD₄
        have lv₄ : ∀ a o, V₄.h.get? a = some o → ∃ o', h₆.get? a = some o' := fun a o e => by
          by_cases hDa : a = D
          · subst hDa; obtain ⟨_, h⟩ := hpl₆; exact ⟨_, h⟩
          · exact ⟨o, hkD a o e fun q => hDa (List.mem_singleton.mp q)⟩
        refine ⟨items.length - (i + 1), by omega, i + 1, V₄.to h₆ [D] hkD D0D, δ₃, tk₆, acc ++ [my], ys.push y, rfl, rfl, hlt, ?_, I₅.to hkD D0D hD₄, lessc (Ic₅.to hkD D0D hDc), lX₅.off hkD D0D (noX D hDY), NewDom.step lv₃ nY₃ n₅,
          fun a o e => let ⟨o1, e1⟩ := lv₃ a o e; let ⟨o2, e2⟩ := l₅.live a o1 e1; lv₄ a o2 e2, fun a o e => l₅.g _ _ (g₄ a o e), hJ₄, hD₄, hC₅, (l₅.gh _ _ hoJ₃).trans hJn₃, hDn₄, hpl₆, ?_, ?_, q⟩
        · exact W.frame _ _ _ hS₄ (keepS V₄ (V₄.to h₆ [D] hkD D0D) (fun a o e => l₅.g _ _ (g₄ a o e)) (fun _ _ e => e) fun o e => hkD _ _ e fun q => hJD (List.mem_singleton.mp q))
        · rw [Array.toList_push]
          exact RepL.append (RepL.mono l₅.g acc hrl₃) (RepL.one ry)
        · rw [Array.size_push]; omega
    · have hin : i = items.length := by omega
      subst hin
      refine W.done _ _ _ hSi fun h₂ tk₃ hk₁ => ?_
      have hk : ∀ a o, V.h.get? a = some o → a ∉ [J] → h₂.get? a = some o := fun a o e n => hk₁ a o n e
      have q : Q acc δ₁ := by
        have := hcp
        rw [List.drop_length] at this
        exact this
      obtain ⟨_, gC, mC, hCn⟩ := Ic₁.loc
      exact hRR D C (V.to h₂ [J] hk D0) tk₃ acc ys δ₁ mC q (lX₁.off hk D0 hJX) (I₁.to hk D0 hJ₁) n₁ (noX D hDY) (noX C hCY) hDC (hCn.at' fun o e => hk _ _ e fun q => hJC (List.mem_singleton.mp q).symm) gC hDn hD₁ hC₁
        ⟨nD, hk _ _ hDobj fun q => hJD (List.mem_singleton.mp q).symm⟩ hrl
  exact codeAny_compStart_list (loop _ rfl) (W.self 0 _ _ _ hS₀ (loop _ rfl))
end
end Mine

/- part MH -/
namespace Mine
open PySem PySem.W PySem.Calls

section
variable {B : Bs} {A : Around} {env : Env} {ρ : Vs} {δ δ' : Ds} {X Y : Wd B}

theorem Inv.fix {D : Addr} {o : Obj} {e : X.h.get? D = some o} {n : X.g D = none} (I : Inv env ρ δ X) (hD : D ∉ foot env δ) : Inv env ρ δ (X.fix D o e n) := by
  have ne : ∀ a ∈ foot env δ, (X.fix D o e n).g a = X.g a := fun a h => if_neg fun q => hD (by rw [← q]; exact h)
  refine ⟨fun y m h => let ⟨v, hv, rv⟩ := I.vars y m h; ⟨v, hv, RepV.mono (Wd.fix_g X) m rv⟩, ?_, fun y c hc => ?_, ⟨fun p hp => ?_, I.dicts.nodup⟩⟩
  · obtain ⟨a, b, m, hm⟩ := I.loc
    exact ⟨a, (ne _ List.mem_cons_self).trans b, m, hm⟩
  · obtain ⟨a, b, w⟩ := I.cells y c hc
    exact ⟨(ne _ (List.mem_cons_of_mem _ (List.mem_append_left _ (List.mem_map.mpr ⟨(y, c), mem_of_lookup hc, rfl⟩)))).trans a, b, w⟩
  · obtain ⟨a, b, c⟩ := I.dicts.at_ p hp
    refine ⟨?_, (ne _ (dom_foot _ (List.mem_map_of_mem hp))).trans b, c⟩
    cases hd : p.2 <;> (rw [hd] at a; obtain ⟨kvs, h, q⟩ := a; exact ⟨kvs, h, q.mono (Wd.fix_g X)⟩)

theorem Ev.comp {elt iter : Expr} {x : Str} {xp : Pos} {ifs : List Expr} {scope : Scope} {pos : Pos} {Q : MV → Ds → Prop} (O : EnvOk env) (hA : A.handled = none) (K : CmpOk scope env x)
    (h : Ev B A env (eval iter env) ρ δ fun m δ₁ => ∃ R, It B A δ₁ m R ∧ ∀ items, R items → items.length ≤ sizeLine ∧ ∀ C, CpOk B A (cEnv scope C env) x ifs elt (freeVs scope ρ) (fun ms δ' => Q (.lst ms) δ') items [] δ₁)
    (hs : ∀ v, foldedSetIterable iter env v = pure v := by intro _; rfl) : Ev B A env (eval (.ListComp elt [⟨.Name x xp, iter, ifs, 0⟩] scope pos) env) ρ δ Q := fun X I tk => by
  rw [eval_ListComp]
  refine wpAny_comprehension_free (use := Option.none) (g := ⟨.Name x xp, iter, ifs, 0⟩) (gs := []) (cl := clOf env.cells scope.names []) rfl hs (closureFor_is K.free) K.kind (fun p hp e => (K.own p hp).trans (by rw [e])) ?_
  refine (h X I).into fun v Y tk₁ l₁ ⟨m, δ₁, ⟨RR, hit, hzc⟩, rv, I₁, n₁⟩ => (hit Y v rv I₁.dicts).into fun it Z tk₂ l₂ ⟨items, J, fp, P, S, hRR, e, W, hS, hfp, hJ0, hJg, hob, hP⟩ => ?_
  subst e
  obtain ⟨hz, hc⟩ := hzc items hRR
  have hJf : J ∉ foot env δ₁ := fun q => by obtain ⟨o, e⟩ := I₁.live O q; rw [hJ0] at e; cases e
  refine comp_block (X := Y) (Q := fun ms δ' => Q (.lst ms) δ') (RR := fun acc C => compPost B.M A _ Option.none _ acc C) O K (I₁.here l₂) (l₂.mono fun _ h => nomatch h) hJ0 hJf W hS hfp hJg hob hP hz hc ?_
  intro D C V tk' ms ys δ' mC q lV I₃ n₃ hDX hCX hDC hCn gC gD hD hC hpl hrl
  refine ⟨mC, hCn, fun h' hs' => ?_⟩
  obtain ⟨l⟩ := ys
  obtain ⟨nD, hDo⟩ := hpl
  have hk : ∀ a o, V.h.get? a = some o → a ∉ [C] → h'.get? a = some o := fun a o e n => (hs'.2 a fun q => n (List.mem_singleton.mpr q)).trans e
  have C0 : ∀ a ∈ [C], V.g a = none := fun a h => by rw [List.mem_singleton.mp h]; exact gC
  have eD : (V.to h' [C] hk C0).h.get? D = some (lstO l nD) := hk _ _ hDo fun q => hDC (List.mem_singleton.mp q)
  have gD' : (V.to h' [C] hk C0).g D = none := gD
  have lV' : Le (dom δ₁) Y ((V.to h' [C] hk C0).fix D _ eD gD') := (lV.off hk C0 hCX).fix hDX
  have nY : NewDom Y δ₁ δ' := NewDom.step l₂.live (NewDom.refl _ _) n₃
  refine ⟨(V.to h' [C] hk C0).fix D _ eD gD', tk', rfl, l₁.trans lV' n₁, .lst ms, δ', q, ⟨D, l, nD, rfl, Wd.fix_at _, RepL.mono (Wd.fix_g _) ms hrl⟩, (I₃.to hk C0 hC).fix hD, n₁.trans l₁ nY⟩

theorem Ex.assignComp {elt iter : Expr} {x y : Str} {xp py : Pos} {ifs : List Expr} {scope : Scope} {pos spos : Pos} {Q : MF → Vs → Ds → Prop} (O : EnvOk env) (hA : A.handled = none) (K : CmpOk scope env x)
    (hsw : swapsWith (.ListComp elt [⟨.Name x xp, iter, ifs, 0⟩] scope pos) (some (.Name y py)) spos.line env = pure true) (hy : May env y)
    (h : Ev B A env (eval iter env) ρ δ fun m δ₁ => ∃ R, It B A δ₁ m R ∧ ∀ items, R items → items.length ≤ sizeLine ∧ ∀ C, CpOk B A (cEnv scope C env) x ifs elt (freeVs scope ρ) (fun ms δ' => Q .next (setv ρ y (.lst ms)) δ') items [] δ₁)
    (hs : ∀ v, foldedSetIterable iter env v = pure v := by intro _; rfl) : Ex B A env (exec (.Assign [.Name y py] (.ListComp elt [⟨.Name x xp, iter, ifs, 0⟩] scope pos) spos) env) ρ δ Q := fun X I tk => by
  rw [exec_Assign_Name_used _ _ _ _ hsw]
  refine wpAny_bind (wpAny_standAt (wpAny_bind ?_))
  show wpAny _ A (do let _ ← comprehension (.ListComp elt [⟨.Name x xp, iter, ifs, 0⟩] scope pos) scope env _ (newList []) false (eval iter env) (some (PySem.assign (.Name y py) env))) _ _ _
  refine wpAny_bind (wpAny_mono (wpAny_comprehension_free (use := some (PySem.assign (.Name y py) env)) (g := ⟨.Name x xp, iter, ifs, 0⟩) (gs := []) (cl := clOf env.cells scope.names [])
    (Q := fun _ s' => ∃ X' tk', s' = St B X'.h tk' ∧ Le (foot env δ) X X' ∧ ∃ mf ρ' δ', Q mf ρ' δ' ∧ RepF B.C X'.g mf .next ∧ Inv env ρ' δ' X' ∧ NewDom X δ δ')
    rfl hs (closureFor_is K.free) K.kind (fun p hp e => (K.own p hp).trans (by rw [e])) ?_) (fun _ s' hq => wpAny_pure (wpAny_pure hq)) fun _ _ e => e)
  refine (h X I).into fun v Y tk₁ l₁ ⟨m, δ₁, ⟨RR, hit, hzc⟩, rv, I₁, n₁⟩ => (hit Y v rv I₁.dicts).into fun it Z tk₂ l₂ ⟨items, J, fp, P, S, hRR, e, W, hS, hfp, hJ0, hJg, hob, hP⟩ => ?_
  subst e
  obtain ⟨hz, hc⟩ := hzc items hRR
  have hJf : J ∉ foot env δ₁ := fun q => by obtain ⟨o, e⟩ := I₁.live O q; rw [hJ0] at e; cases e
  refine comp_block (X := Y) (Q := fun ms δ' => Q .next (setv ρ y (.lst ms)) δ') (RR := fun acc C => compPost B.M A _ (some (PySem.assign (.Name y py) env)) _ acc C) O K (I₁.here l₂) (l₂.mono fun _ h => nomatch h) hJ0 hJf W hS hfp hJg hob hP hz hc ?_
  intro D C V tk' ms ys δ' mC q lV I₃ n₃ hDX hCX hDC hCn gC gD hD hC hpl hrl
  obtain ⟨l⟩ := ys
  obtain ⟨nD, hDo⟩ := hpl
  have eD : V.h.get? D = some (lstO l nD) := hDo
  let V₁ : Wd B := V.fix D _ eD gD
  have I₄ : Inv env ρ δ' V₁ := I₃.fix hD
  have r₁ : RepV B.C V₁.g (.lst ms) (.ref D) := ⟨D, l, nD, rfl, Wd.fix_at _, RepL.mono (Wd.fix_g _) ms hrl⟩
  have nY : NewDom Y δ₁ δ' := NewDom.step l₂.live (NewDom.refl _ _) n₃
  have lV₁ : Le (dom δ₁) Y V₁ := lV.fix hDX
  show wpAny _ A (PySem.assign (.Name y py) env (.ref D)) _ _ _
  refine wpAny_assign_Name ((storeVar O hy I₄ r₁).into fun _ V₂ tk₃ l₃ ⟨I₅, e₅⟩ => ?_)
  have hCV : C ∉ foot env δ' := hC
  refine ⟨mC, hCn.at' fun o e => l₃.keep _ _ e hC, fun h' hs' => ?_⟩
  have hk : ∀ a o, V₂.h.get? a = some o → a ∉ [C] → h'.get? a = some o := fun a o e n => (hs'.2 a fun q => n (List.mem_singleton.mpr q)).trans e
  have C0 : ∀ a ∈ [C], V₂.g a = none := fun a h => by
    rw [List.mem_singleton.mp h, e₅]
    exact (if_neg (fun q => hDC q.symm)).trans gC
  have nX : NewDom X δ δ' := n₁.trans l₁ nY
  have lX : Le (foot env δ) X V₁ := (l₁.trans lV₁ n₁).mono dom_foot
  have lX₂ : Le (foot env δ) X V₂ := lX.trans l₃ (foot_new nX)
  have hCXX : X.h.get? C = none := by
    cases e : X.h.get? C with
    | none => rfl
    | some o => obtain ⟨o', e'⟩ := l₁.live _ _ e; rw [hCX] at e'; cases e'
  exact ⟨V₂.to h' [C] hk C0, tk₃, rfl, lX₂.off hk C0 hCXX, .next, _, δ', q, rfl, I₅.to hk C0 hC, nX⟩
end
end Mine

/- part PA -/
namespace Mine
open PySem PySem.W PySem.Calls

section
variable {B : Bs} {A : Around} {δ : Ds} {X : Wd B} {P : MV → Prop} {R : Bool → Prop} {i j : Int} {x y : Str} {a b : MV}
theorem Cmp.d {op : CmpOp} (h : Cmp B A op a b R) : CmpD B A op δ a b R := fun X u v ru rv _ => h X u v ru rv
/-- an end at the same heap -/
theorem same_end {α : Type} {a : α} {post : α → Wd B → Prop} {tk : Nat} (h : post a X) : ∃ X' tk', St B X.h tk = St B X'.h tk' ∧ Le ([] : List Addr) X X' ∧ post a X' := ⟨X, tk, rfl, Le.refl _ _, h⟩

theorem Bin.addI (h : P (.int (i + j))) : Bin B A .Add (.int i) (.int j) P := fun X u v ⟨t, e⟩ ⟨t', e'⟩ tk => by
  subst e e'; exact PyProof.Rows.add_int ⟨X, tk + 1, rfl, Le.refl _ _, _, h, _, rfl⟩
theorem Bin.subI (h : P (.int (i - j))) : Bin B A .Sub (.int i) (.int j) P := fun X u v ⟨t, e⟩ ⟨t', e'⟩ tk => by
  subst e e'; exact PyProof.Rows.sub_int ⟨X, tk + 1, rfl, Le.refl _ _, _, h, _, rfl⟩
theorem Bin.mulI (h : P (.int (i * j))) (hm : IntMulOk i j) : Bin B A .Mult (.int i) (.int j) P := fun X u v ⟨t, e⟩ ⟨t', e'⟩ tk => by
  subst e e'; exact PyProof.Rows.mul_int ⟨X, tk + 1, rfl, Le.refl _ _, _, h, _, rfl⟩ hm
theorem Bin.modI (hj : j ≠ 0) (h : P (.int (i.fmod j))) : Bin B A .Mod (.int i) (.int j) P := fun X u v ⟨t, e⟩ ⟨t', e'⟩ tk => by
  subst e e'; exact PyProof.Rows.mod_int hj ⟨X, tk + 1, rfl, Le.refl _ _, _, h, _, rfl⟩
theorem Bin.divI (hj : j ≠ 0) (hs : j.natAbs < 1073741824) (h : P (.int (i.fdiv j))) : Bin B A .FloorDiv (.int i) (.int j) P := fun X u v ⟨t, e⟩ ⟨t', e'⟩ tk => by
  subst e e'; exact PyProof.Rows.floordiv_int hj ⟨X, tk + 1, rfl, Le.refl _ _, _, h, _, rfl⟩ (.inl (PyProof.noPylong_small hs))
theorem Un.neg (h : P (.int (-i))) : Un B A .USub (.int i) P := fun X u ⟨t, e⟩ tk => by
  subst e; exact PyProof.Rows.neg_int ⟨X, tk + 1, rfl, Le.refl _ _, _, h, _, rfl⟩
theorem Un.not {c : Bool} (h : P (.bool (!c))) : Un B A .Not (.bool c) P := fun X u e tk => by
  cases e; exact PyProof.Rows.not_of (wpAny_truthy_bool ⟨X, tk, rfl, Le.refl _ _, _, h, rfl⟩)
theorem Cmp.ltI (h : R (decide (i < j))) : Cmp B A .Lt (.int i) (.int j) R := fun X u v ⟨t, e⟩ ⟨t', e'⟩ tk => by
  subst e e'; exact PyProof.Rows.lt_int ⟨X, tk, rfl, Le.refl _ _, _, h, rfl⟩
theorem Cmp.leI (h : R (decide (i ≤ j))) : Cmp B A .LtE (.int i) (.int j) R := fun X u v ⟨t, e⟩ ⟨t', e'⟩ tk => by
  subst e e'; exact PyProof.Rows.le_int ⟨X, tk, rfl, Le.refl _ _, _, h, rfl⟩
theorem Cmp.gtI (h : R (decide (j < i))) : Cmp B A .Gt (.int i) (.int j) R := fun X u v ⟨t, e⟩ ⟨t', e'⟩ tk => by
  subst e e'; exact PyProof.Rows.gt_int ⟨X, tk, rfl, Le.refl _ _, _, h, rfl⟩
theorem Cmp.eqI (h : R (i == j)) : Cmp B A .Eq (.int i) (.int j) R := fun X u v ⟨t, e⟩ ⟨t', e'⟩ tk => by
  subst e e'; exact PyProof.Rows.eq_int ⟨X, tk, rfl, Le.refl _ _, _, h, rfl⟩
theorem Cmp.neI (h : R (i != j)) : Cmp B A .NotEq (.int i) (.int j) R := fun X u v ⟨t, e⟩ ⟨t', e'⟩ tk => by
  subst e e'; exact PyProof.Rows.ne_int ⟨X, tk, rfl, Le.refl _ _, _, h, rfl⟩
theorem Cmp.eqS (h : R (x == y)) : Cmp B A .Eq (.str x) (.str y) R := fun X u v ⟨t, e⟩ ⟨t', e'⟩ tk => by
  subst e e'; exact PyProof.Rows.eq_str ⟨X, tk, rfl, Le.refl _ _, _, h, rfl⟩
theorem Cmp.neS (h : R (x != y)) : Cmp B A .NotEq (.str x) (.str y) R := fun X u v ⟨t, e⟩ ⟨t', e'⟩ tk => by
  subst e e'; exact PyProof.Rows.ne_str ⟨X, tk, rfl, Le.refl _ _, _, h, rfl⟩
theorem Bin.pow0 (h : P (.int 1)) : Bin B A .Pow (.int i) (.int 0) P := fun X u v ⟨t, e⟩ ⟨t', e'⟩ tk => by
  subst e e'
  exact AutoIntOps.pow_0 (by decide) rfl ⟨X, tk + 1, rfl, Le.refl _ _, _, h, _, rfl⟩
theorem abs_int (h : P (.int (if i < 0 then -i else i))) : Cq B A (.builtin "abs") [.int i] P := fun X vs ⟨v, r, e, ⟨t, e1⟩, e2⟩ tk => by
  subst e1 e2 e
  exact PyProof.Rows.call_abs_int fun u tk' => ⟨X, tk', rfl, Le.refl _ _, _, h, _, rfl⟩
theorem int_int (h : P (.int i)) : Cq B A (.type "int") [.int i] P := fun X vs ⟨v, r, e, ⟨t, e1⟩, e2⟩ tk => by
  subst e1 e2 e
  exact call_int_int ⟨X, tk, rfl, Le.refl _ _, _, h, _, rfl⟩
end
end Mine

/- part PB -/
namespace Mine
open PySem PySem.W PySem.Calls PyProof.Rows PyProof.V PySem.Spec PySem.SeqAt

theorem intsAre_of {C : Cx} {g : Gh} : ∀ {ns : List Int} {vs : List Value}, RepL C g (ns.map MV.int) vs → IntsAre vs ns
  | [], _, e => by cases e; exact .nil
  | n :: r, _, ⟨v, w, e, ⟨t, ev⟩, y⟩ => by subst e ev; exact .cons n t (intsAre_of y)
theorem repL_ints {C : Cx} {g : Gh} : ∀ {ns : List Int} {vs : List Value}, IntsAre vs ns → RepL C g (ns.map MV.int) vs
  | _, _, .nil => rfl
  | _, _, .cons n t h => ⟨_, _, rfl, ⟨t, rfl⟩, repL_ints h⟩

mutual
noncomputable def dat : MV → PyData
  | .bool b => .bool b
  | .int i => .int i
  | .str s => .str s
  | .tup l => .tuple (dats l)
  | .lst l => .list (dats l)
  | _ => .none
noncomputable def dats : List MV → List PyData
  | [] => []
  | m :: l => dat m :: dats l
end
mutual
noncomputable def okD : MV → Bool
  | .none => true
  | .bool _ => true
  | .int _ => true
  | .str s => PyData.strOk s
  | .tup l => okDs l
  | .lst l => okDs l
  | _ => false
noncomputable def okDs : List MV → Bool
  | [] => true
  | m :: l => okD m && okDs l
end
mutual
theorem reads_of {C : Cx} {g : Gh} {h : Heap} (hs : ∀ a o, g a = some o → h.get? a = some o) : ∀ (m : MV) {v : Value}, okD m = true → RepV C g m v → ∃ as, Reads h v (dat m) as
  | .none, _, _, r => by cases r; exact ⟨_, .none⟩
  | .bool b, _, _, r => by cases r; exact ⟨_, .bool b⟩
  | .int i, _, _, ⟨t, e⟩ => by subst e; exact ⟨_, .int i t⟩
  | .str s, _, _, ⟨t, e⟩ => by subst e; exact ⟨_, .str s t⟩
  | .tup l, _, k, ⟨a, vs, n, e, x, y⟩ => by
    subst e
    obtain ⟨as, q⟩ := readsAll_of hs l (by simpa [okD] using k) y
    exact ⟨_, by rw [dat]; exact Reads.tuple (hs _ _ x) rfl rfl q⟩
  | .lst l, _, k, ⟨a, vs, n, e, x, y⟩ => by
    subst e
    obtain ⟨as, q⟩ := readsAll_of hs l (by simpa [okD] using k) y
    exact ⟨_, by rw [dat]; exact Reads.list (hs _ _ x) rfl rfl q⟩
  | .set _, _, k, _ => by simp [okD] at k
  | .dict _, _, k, _ => by simp [okD] at k
  | .rng _ _, _, k, _ => by simp [okD] at k
  | .inst _, _, k, _ => by simp [okD] at k
  | .typ _, _, k, _ => by simp [okD] at k
  | .slc _ _ _, _, k, _ => by simp [okD] at k
theorem readsAll_of {C : Cx} {g : Gh} {h : Heap} (hs : ∀ a o, g a = some o → h.get? a = some o) : ∀ (l : List MV) {vs : List Value}, okDs l = true → RepL C g l vs → ∃ as, ReadsAll h vs (dats l) as
  | [], _, _, r => by cases r; exact ⟨_, by rw [dats]; exact .nil⟩
  | m :: l, _, k, ⟨v, r, e, x, y⟩ => by
    subst e
    rw [okDs, Bool.and_eq_true] at k
    obtain ⟨as, q⟩ := reads_of hs m k.1 x
    obtain ⟨bs, q'⟩ := readsAll_of hs l k.2 y
    exact ⟨_, by rw [dats]; exact .cons q q'⟩
end
mutual
theorem canLay_dat : ∀ m : MV, okD m = true → PyData.canLay0 (dat m) = true
  | .none, _ => by simp [dat, PyData.canLay0]
  | .bool b, _ => by simp [dat, PyData.canLay0]
  | .int i, _ => by simp [dat, PyData.canLay0]
  | .str s, h => by simpa [dat, PyData.canLay0, okD] using h
  | .tup l, h => by rw [dat, PyData.canLay0]; exact canLay_dats l (by simpa [okD] using h)
  | .lst l, h => by rw [dat, PyData.canLay0]; exact canLay_dats l (by simpa [okD] using h)
  | .set _, k => by simp [okD] at k
  | .dict _, k => by simp [okD] at k
  | .rng _ _, k => by simp [okD] at k
  | .inst _, k => by simp [okD] at k
  | .typ _, k => by simp [okD] at k
  | .slc _ _ _, k => by simp [okD] at k
theorem canLay_dats : ∀ l : List MV, okDs l = true → PyData.canLayAll0 (dats l) = true
  | [], _ => by simp [dats, PyData.canLayAll0]
  | m :: l, k => by
    rw [okDs, Bool.and_eq_true] at k
    rw [dats, PyData.canLayAll0, canLay_dat m k.1, canLay_dats l k.2]; rfl
end
theorem depth_dats {k : Nat} : ∀ {l : List MV}, (∀ m ∈ l, PyData.depth (dat m) ≤ k) → PyData.depthAll (dats l) ≤ k
  | [], _ => by simp [dats, PyData.depthAll]
  | m :: l, h => by
    rw [dats, PyData.depthAll]
    exact Nat.max_le.mpr ⟨h m List.mem_cons_self, depth_dats fun x hx => h x (List.mem_cons_of_mem _ hx)⟩
theorem okDs_of : ∀ {l : List MV}, (∀ m ∈ l, okD m = true) → okDs l = true
  | [], _ => by rw [okDs]
  | m :: l, h => by rw [okDs, h m List.mem_cons_self, okDs_of fun x hx => h x (List.mem_cons_of_mem _ hx)]; rfl
theorem shaped_dat {m : MV} (h : okD m = true) (d : PyData.depth (dat m) ≤ 64) : shaped (dat m) = true := by
  show (PyData.canLay0 _ && decide (_ ≤ 64)) = true
  rw [Bool.and_eq_true]
  exact ⟨canLay_dat m h, decide_eq_true d⟩

section
variable {B : Bs} {A : Around} {δ : Ds} {X : Wd B} {P : MV → Prop} {R : Bool → Prop} {i j : Int} {x y : Str} {a b : MV}
theorem Cmp.eqD (hu : A.units + 64 < cLine) (h1 : okD a = true) (h2 : okD b = true) (d1 : PyData.depth (dat a) ≤ 64) (d2 : PyData.depth (dat b) ≤ 64) (mix : noMix (dat a) (dat b) = true)
    (h : R (PySem.Spec.same (dat a) (dat b))) : Cmp B A .Eq a b R := fun X u v ru rv tk => by
  obtain ⟨as, ra⟩ := reads_of X.sub a h1 ru
  obtain ⟨bs, rb⟩ := reads_of X.sub b h2 rv
  exact PyProof.Rows.eq_dataH_same ra rb (shaped_dat h1 d1) (shaped_dat h2 d2) hu mix ⟨X, tk, rfl, Le.refl _ _, _, h, rfl⟩
theorem Cmp.neD (hu : A.units + 64 < cLine) (h1 : okD a = true) (h2 : okD b = true) (d1 : PyData.depth (dat a) ≤ 64) (d2 : PyData.depth (dat b) ≤ 64) (mix : noMix (dat a) (dat b) = true)
    (h : R (!PySem.Spec.same (dat a) (dat b))) : Cmp B A .NotEq a b R := fun X u v ru rv tk => by
  obtain ⟨as, ra⟩ := reads_of X.sub a h1 ru
  obtain ⟨bs, rb⟩ := reads_of X.sub b h2 rv
  exact PyProof.Rows.ne_dataH_same ra rb (shaped_dat h1 d1) (shaped_dat h2 d2) hu mix ⟨X, tk, rfl, Le.refl _ _, _, h, rfl⟩
/-- values whose data are small -/
noncomputable def Flat (k : Nat) (m : MV) : Prop := okD m = true ∧ PyData.depth (dat m) ≤ k
theorem same_nil (l : List MV) : PySem.Spec.sameAll (dats l) (dats []) = l.isEmpty := by
  cases l <;> simp [dats, PySem.Spec.sameAll]
theorem noMix_nil (l : List MV) : noMixAll (dats l) (dats []) = true := by cases l <;> simp [dats, noMixAll]
theorem Cmp.neNilL {l : List MV} (hu : A.units + 64 < cLine) (hl : ∀ m ∈ l, Flat 9 m) (h : R (!l.isEmpty)) : Cmp B A .NotEq (.lst l) (.lst []) R :=
  Cmp.neD hu (by rw [okD]; exact okDs_of fun m h => (hl m h).1) (by simp [okD, okDs]) (by rw [dat, PyData.depth]; have := depth_dats fun m h => (hl m h).2; omega) (by simp [dat, dats, PyData.depth, PyData.depthAll])
    (by rw [dat, dat, noMix]; exact noMix_nil l) (by rw [dat, dat, PySem.Spec.same, same_nil]; exact h)
theorem Cmp.eqNilT {l : List MV} (hu : A.units + 64 < cLine) (hl : ∀ m ∈ l, Flat 9 m) (h : R l.isEmpty) : Cmp B A .Eq (.tup l) (.tup []) R :=
  Cmp.eqD hu (by rw [okD]; exact okDs_of fun m h => (hl m h).1) (by simp [okD, okDs]) (by rw [dat, PyData.depth]; have := depth_dats fun m h => (hl m h).2; omega) (by simp [dat, dats, PyData.depth, PyData.depthAll])
    (by rw [dat, dat, noMix]; exact noMix_nil l) (by rw [dat, dat, PySem.Spec.same, same_nil]; exact h)
theorem Cmp.eqNilL {l : List MV} (hu : A.units + 64 < cLine) (hl : ∀ m ∈ l, Flat 9 m) (h : R l.isEmpty) : Cmp B A .Eq (.lst l) (.lst []) R :=
  Cmp.eqD hu (by rw [okD]; exact okDs_of fun m h => (hl m h).1) (by simp [okD, okDs]) (by rw [dat, PyData.depth]; have := depth_dats fun m h => (hl m h).2; omega) (by simp [dat, dats, PyData.depth, PyData.depthAll])
    (by rw [dat, dat, noMix]; exact noMix_nil l) (by rw [dat, dat, PySem.Spec.same, same_nil]; exact h)
theorem Cmp.neNilT {l : List MV} (hu : A.units + 64 < cLine) (hl : ∀ m ∈ l, Flat 9 m) (h : R (!l.isEmpty)) : Cmp B A .NotEq (.tup l) (.tup []) R :=
  Cmp.neD hu (by rw [okD]; exact okDs_of fun m h => (hl m h).1) (by simp [okD, okDs]) (by rw [dat, PyData.depth]; have := depth_dats fun m h => (hl m h).2; omega) (by simp [dat, dats, PyData.depth, PyData.depthAll])
    (by rw [dat, dat, noMix]; exact noMix_nil l) (by rw [dat, dat, PySem.Spec.same, same_nil]; exact h)
theorem dats_ints : ∀ ns : List Int, dats (ns.map MV.int) = ns.map PyData.int
  | [] => by simp [dats]
  | n :: r => by rw [List.map_cons, dats, dats_ints r, dat, List.map_cons]
theorem flat_ints {ns : List Int} : ∀ m ∈ ns.map MV.int, Flat 9 m := fun m h => by
  obtain ⟨n, _, rfl⟩ := List.mem_map.mp h
  exact ⟨by simp [okD], by simp [dat, PyData.depth]⟩
theorem Cmp.eqInts {ns ms : List Int} (hu : A.units + 64 < cLine) (h : R (decide (ns = ms))) : Cmp B A .Eq (.lst (ns.map .int)) (.lst (ms.map .int)) R :=
  Cmp.eqD hu (by rw [okD]; exact okDs_of fun m h => (flat_ints m h).1) (by rw [okD]; exact okDs_of fun m h => (flat_ints m h).1) (by rw [dat, PyData.depth]; have := depth_dats fun m h => (flat_ints (ns := ns) m h).2; omega)
    (by rw [dat, PyData.depth]; have := depth_dats fun m h => (flat_ints (ns := ms) m h).2; omega) (by rw [dat, dat, noMix, dats_ints, dats_ints]; exact noMix_ints ns ms) (by rw [dat, dat, PySem.Spec.same, dats_ints, dats_ints, same_ints]; exact h)
theorem Cmp.neInts {ns ms : List Int} (hu : A.units + 64 < cLine) (h : R (!decide (ns = ms))) : Cmp B A .NotEq (.lst (ns.map .int)) (.lst (ms.map .int)) R :=
  Cmp.neD hu (by rw [okD]; exact okDs_of fun m h => (flat_ints m h).1) (by rw [okD]; exact okDs_of fun m h => (flat_ints m h).1) (by rw [dat, PyData.depth]; have := depth_dats fun m h => (flat_ints (ns := ns) m h).2; omega)
    (by rw [dat, PyData.depth]; have := depth_dats fun m h => (flat_ints (ns := ms) m h).2; omega) (by rw [dat, dat, noMix, dats_ints, dats_ints]; exact noMix_ints ns ms) (by rw [dat, dat, PySem.Spec.same, dats_ints, dats_ints, same_ints]; exact h)

/-- in a tuple of ints -/
theorem Cmp.inT {ns : List Int} (h : R (ns.any (· == i))) : Cmp B A .In (.int i) (.tup (ns.map .int)) R := fun X u v ⟨t, e⟩ ⟨a, vs, n, e', hg, rl⟩ tk => by
  subst e e'
  exact PyProof.Rows.in_tuple_ints (ns := ns) ⟨_, X.sub _ _ hg, rfl, n, rfl⟩ (by simpa using intsAre_of rl) ⟨X, tk, rfl, Le.refl _ _, _, h, rfl⟩
theorem Cmp.notInNil {ls : List (List MV)} (hu : A.in1.units < cLine) (h : R (!ls.any List.isEmpty)) : Cmp B A .NotIn (.lst []) (.lst (ls.map .lst)) R := fun X u v ⟨a, vs, n, e, hg, rl⟩ ⟨b, us, k, e', hg', rl'⟩ tk => by
  subst e e'
  cases rl
  let e : Value → Bool := fun v => match v with
    | .ref c => (match X.h.get? c with | some o => (match o.data with | .seq items _ => items.isEmpty | _ => false) | _ => false)
    | _ => false
  have key : ∀ {ls : List (List MV)} {us : List Value}, RepL B.C X.g (ls.map .lst) us → us.any e = ls.any List.isEmpty ∧ ∀ y ∈ us, EqAt A.in1 (St B X.h tk) y (.ref a) (e y) := by
    intro ls
    induction ls with
    | nil => intro us r; cases r; exact ⟨rfl, fun y hy => nomatch hy⟩
    | cons l ls ih =>
      rintro us ⟨v, r, eq, ⟨c, ws, kk, ev, hc, rw'⟩, y⟩
      subst eq ev
      obtain ⟨i1, i2⟩ := ih y
      have ee : e (.ref c) = l.isEmpty := by
        show (match X.h.get? c with | some o => (match o.data with | .seq items _ => items.isEmpty | _ => false) | _ => false) = _
        rw [X.sub _ _ hc]
        have := rw'.length
        cases l with
        | nil => cases ws with | nil => rfl | cons _ _ => simp at this
        | cons _ _ => cases ws with | nil => simp at this | cons _ _ => rfl
      refine ⟨by rw [List.any_cons, List.any_cons, ee, i1], fun z hz => ?_⟩
      rcases List.mem_cons.mp hz with q | q
      · subst q
        rw [ee]
        by_cases hca : c = a
        · subst hca
          have hcc := hc.symm.trans hg
          have hw : ws = [] := by
            have h2 := congrArg (fun o : Option Obj => o.map Obj.data) hcc
            simp only [Option.map_some, Option.some.injEq, Data.seq.injEq] at h2
            simpa using h2.1
          subst hw
          have : l = [] := by
            have := rw'.length
            cases l with
            | nil => rfl
            | cons _ _ => simp at this
          subst this
          exact EqAt.same _
        · cases l with
          | nil =>
            have hw : ws = [] := by cases rw'; rfl
            subst hw
            have q0 := RcAt.lists (A := A.in1) (s := St B X.h tk) (l := c) (b := a) (items := #[]) (items2 := #[]) (e := fun _ => true) ⟨_, X.sub _ _ hc, rfl, kk, rfl⟩ ⟨_, X.sub _ _ hg, rfl, n, rfl⟩ rfl hu (fun j h1 _ => absurd h1 (by simp))
            exact EqAt.of_refs hca q0
          | cons m l =>
            have hw : (ws.toArray.size != (#[] : Array Value).size) = true := by
              have := rw'.length
              cases ws with
              | nil => simp at this
              | cons _ _ => rfl
            exact EqAt.of_refs hca (RcAt.lists_lengths ⟨_, X.sub _ _ hc, rfl, kk, rfl⟩ ⟨_, X.sub _ _ hg, rfl, n, rfl⟩ hw hu)
      · exact i2 z q
  obtain ⟨k1, k2⟩ := key rl'
  exact notIn_listAt e ⟨_, X.sub _ _ hg', rfl, k, rfl⟩ (fun y hy => k2 y (by simpa using hy)) ⟨X, tk, rfl, Le.refl _ _, _, h, by simp [k1]⟩

theorem isi_ii (h : P (.bool true)) : Cq B A (.builtin "isinstance") [.int i, .typ "int"] P := fun X vs ⟨v, r, e, ⟨t, e1⟩, v2, r2, e2, e3, e4⟩ tk => by
  subst e1 e e2; cases e3; cases e4; exact IsiPair.int_int ⟨X, tk, rfl, Le.refl _ _, _, h, rfl⟩
theorem isi_ib (h : P (.bool false)) : Cq B A (.builtin "isinstance") [.int i, .typ "bool"] P := fun X vs ⟨v, r, e, ⟨t, e1⟩, v2, r2, e2, e3, e4⟩ tk => by
  subst e1 e e2; cases e3; cases e4; exact IsiPair.int_bool ⟨X, tk + 1, rfl, Le.refl _ _, _, h, rfl⟩
theorem isi_bi {c : Bool} (h : P (.bool true)) : Cq B A (.builtin "isinstance") [.bool c, .typ "int"] P := fun X vs ⟨v, r, e, e1, v2, r2, e2, e3, e4⟩ tk => by
  subst e e2; cases e1; cases e3; cases e4; exact IsiPair.bool_int ⟨X, tk, rfl, Le.refl _ _, _, h, rfl⟩
theorem isi_bb {c : Bool} (h : P (.bool true)) : Cq B A (.builtin "isinstance") [.bool c, .typ "bool"] P := fun X vs ⟨v, r, e, e1, v2, r2, e2, e3, e4⟩ tk => by
  subst e e2; cases e1; cases e3; cases e4; exact IsiPair.bool_bool ⟨X, tk, rfl, Le.refl _ _, _, h, rfl⟩
theorem isi_si (h : P (.bool false)) : Cq B A (.builtin "isinstance") [.str x, .typ "int"] P := fun X vs ⟨v, r, e, ⟨t, e1⟩, v2, r2, e2, e3, e4⟩ tk => by
  subst e1 e e2; cases e3; cases e4; exact IsiPair.str_int ⟨X, tk + 1, rfl, Le.refl _ _, _, h, rfl⟩
theorem isi_ni (h : P (.bool false)) : Cq B A (.builtin "isinstance") [.none, .typ "int"] P := fun X vs ⟨v, r, e, e1, v2, r2, e2, e3, e4⟩ tk => by
  subst e e2; cases e1; cases e3; cases e4; exact PySem.IsiPair.NoneType_int ⟨X, tk + 1, rfl, Le.refl _ _, _, h, rfl⟩
theorem isi_ss (h : P (.bool true)) : Cq B A (.builtin "isinstance") [.str x, .typ "str"] P := fun X vs ⟨v, r, e, ⟨t, e1⟩, v2, r2, e2, e3, e4⟩ tk => by
  subst e1 e e2; cases e3; cases e4; exact IsiPair.str_str ⟨X, tk, rfl, Le.refl _ _, _, h, rfl⟩
theorem isi_ts {l : List MV} (h : P (.bool false)) : Cq B A (.builtin "isinstance") [.tup l, .typ "str"] P := fun X vs ⟨v, r, e, ⟨a, ws, n, e1, hg, rl⟩, v2, r2, e2, e3, e4⟩ tk => by
  subst e1 e e2; cases e3; cases e4; exact IsiPair.tuple_str (X.sub _ _ hg) rfl ⟨X, tk + 1, rfl, Le.refl _ _, _, h, rfl⟩
theorem isi_tt {l : List MV} (h : P (.bool true)) : Cq B A (.builtin "isinstance") [.tup l, .typ "tuple"] P := fun X vs ⟨v, r, e, ⟨a, ws, n, e1, hg, rl⟩, v2, r2, e2, e3, e4⟩ tk => by
  subst e1 e e2; cases e3; cases e4; exact IsiPair.tuple_tuple (X.sub _ _ hg) rfl ⟨X, tk, rfl, Le.refl _ _, _, h, rfl⟩
theorem isi_lt {l : List MV} (h : P (.bool false)) : Cq B A (.builtin "isinstance") [.lst l, .typ "tuple"] P := fun X vs ⟨v, r, e, ⟨a, ws, n, e1, hg, rl⟩, v2, r2, e2, e3, e4⟩ tk => by
  subst e1 e e2; cases e3; cases e4; exact IsiPair.list_tuple (X.sub _ _ hg) rfl ⟨X, tk + 1, rfl, Le.refl _ _, _, h, rfl⟩
theorem lt63 {n : Nat} (h : n ≤ sizeLine) : (n : Int) < 2 ^ 63 := by
  have : sizeLine < 2 ^ 63 := by decide
  have h2 : ((2 ^ 63 : Nat) : Int) = 2 ^ 63 := by decide
  rw [← h2]
  exact Int.ofNat_lt.mpr (Nat.lt_of_le_of_lt h this)
theorem len_t {l : List MV} (hl : l.length ≤ sizeLine) (h : P (.int l.length)) : Cq B A (.builtin "len") [.tup l] P := fun X vs ⟨v, r, e, ⟨a, ws, n, e1, hg, rl⟩, e2⟩ tk => by
  subst e1 e; cases e2
  have : ws.toArray.size = l.length := rl.length
  exact PyProof.Rows.len_tuple ⟨_, X.sub _ _ hg, rfl, n, rfl⟩ (by rw [this]; exact lt63 hl) ⟨X, tk + 1 + 1, rfl, Le.refl _ _, _, h, _, by rw [this]⟩
theorem len_l {l : List MV} (hl : l.length ≤ sizeLine) (h : P (.int l.length)) : Cq B A (.builtin "len") [.lst l] P := fun X vs ⟨v, r, e, ⟨a, ws, n, e1, hg, rl⟩, e2⟩ tk => by
  subst e1 e; cases e2
  have : ws.toArray.size = l.length := rl.length
  exact PyProof.Rows.len_list ⟨_, X.sub _ _ hg, rfl, n, rfl⟩ (by rw [this]; exact lt63 hl) ⟨X, tk + 1 + 1, rfl, Le.refl _ _, _, h, _, by rw [this]⟩
end
end Mine

/- part PC -/
namespace Mine
open PySem PySem.W PySem.Calls

section
variable {B : Bs} {A : Around} {env : Env} {ρ : Vs} {δ δ' δ1 δ2 : Ds} {X Y : Wd B} {a : Addr} {d d' : DC} {P : Ds → Prop} {R : Bool → Prop} {i : Int} {x : Str} {v : MV}

theorem mem_mid : (a, d) ∈ δ1 ++ (a, d) :: δ2 := List.mem_append_right _ List.mem_cons_self
theorem dom_mid : dom (δ1 ++ (a, d') :: δ2) = dom (δ1 ++ (a, d) :: δ2) := by simp [dom]
theorem dict_put (H : DictsAt (δ1 ++ (a, d) :: δ2) X) {h' : Heap} (hs : Heap.SameBut a X.h h') (ho : ∃ o, h'.get? a = some o) (hd : ∀ Y : Wd B, Y.h = h' → Y.g = X.g → DictAt B Y a d') :
    ∃ Y : Wd B, Y.h = h' ∧ Y.g = X.g ∧ Le [a] X Y ∧ DictsAt (δ1 ++ (a, d') :: δ2) Y := by
  have hg := (H.at_ _ mem_mid).2.1
  have hk : ∀ b o, X.h.get? b = some o → b ∉ [a] → h'.get? b = some o := fun b o e n => (hs.2 b fun q => n (List.mem_singleton.mpr q)).trans e
  have D0 : ∀ b ∈ [a], X.g b = none := fun b h => by rw [List.mem_singleton.mp h]; exact hg
  have l : Le [a] X (X.to h' [a] hk D0) := Wd.to_le X fun b h _ _ => by rw [List.mem_singleton.mp h]; exact ho
  have nd : (dom (δ1 ++ (a, d') :: δ2)).Nodup := by rw [dom_mid (d := d)]; exact H.nodup
  refine ⟨X.to h' [a] hk D0, rfl, rfl, l, fun p hp => ?_, nd⟩
  have other : ∀ p ∈ δ1 ++ δ2, p ∈ δ1 ++ (a, d) :: δ2 ∧ p.1 ≠ a := fun p hp => by
    have nd := H.nodup
    rw [show dom (δ1 ++ (a, d) :: δ2) = dom δ1 ++ a :: dom δ2 by simp [dom], List.nodup_append] at nd
    rcases List.mem_append.mp hp with h | h
    · exact ⟨List.mem_append_left _ h, fun e => nd.2.2 p.1 (List.mem_map_of_mem h) a List.mem_cons_self e⟩
    · exact ⟨List.mem_append_right _ (List.mem_cons_of_mem _ h), fun e => (List.nodup_cons.mp nd.2.1).1 (e ▸ List.mem_map_of_mem h)⟩
  have oth : ∀ p ∈ δ1 ++ δ2, DictAt B (X.to h' [a] hk D0) p.1 p.2 ∧ (X.to h' [a] hk D0).g p.1 = none ∧ (p.1 == sysModules) = false := fun p hp => by
    obtain ⟨m, ne⟩ := other p hp
    obtain ⟨q1, q2, q3⟩ := H.at_ p m
    exact ⟨q1.next l fun h => ne (List.mem_singleton.mp h), q2, q3⟩
  rcases List.mem_append.mp hp with h | h
  · exact oth p (List.mem_append_left _ h)
  · rcases List.mem_cons.mp h with h | h
    · subst h; exact ⟨hd _ rfl rfl, hg, (H.at_ _ mem_mid).2.2⟩
    · exact oth p (List.mem_append_right _ h)

theorem SetD.int {l : List (Int × MV)} (hl : l.length ≤ sizeLine) (h : P (δ1 ++ (a, .ints (storedM l i v)) :: δ2)) : SetD B A (δ1 ++ (a, .ints l) :: δ2) (.dict a) (.int i) v P := fun X u k w e ⟨t, e'⟩ rv H tk => by
  subst e'; cases e
  obtain ⟨kvs, hD, hr⟩ := (H.at_ _ mem_mid).1
  refine wpAny_setItem_pairs (knd := intKind PG B.w) (k := i) (by simp [intKind, Value.isInt]) hD (fun h' hd hs => ?_) (by rw [hr.length]; exact hl)
  obtain ⟨Y, e1, e2, l, H'⟩ := dict_put (d' := .ints (storedM l i v)) H hs (let ⟨o, _, _, ho, _⟩ := hd; ⟨o, ho⟩) (fun Y e1 e2 => ⟨_, e1 ▸ hd, e2 ▸ hr.store rv⟩)
  exact ⟨Y, tk + 1, by rw [e1], l.mono fun b hb => by rw [List.mem_singleton.mp hb]; simp [dom], _, h, dom_mid, H'⟩
theorem SetD.str {l : List (Str × MV)} (hl : l.length ≤ sizeLine) (h : P (δ1 ++ (a, .strs (storedM l x v)) :: δ2)) : SetD B A (δ1 ++ (a, .strs l) :: δ2) (.dict a) (.str x) v P := fun X u k w e ⟨t, e'⟩ rv H tk => by
  subst e'; cases e
  obtain ⟨kvs, hD, hr⟩ := (H.at_ _ mem_mid).1
  refine wpAny_setItem_pairs (knd := PySem.strKind PG B.w) (k := x) (by simp [PySem.strKind, Value.isStrOf]) hD (fun h' hd hs => ?_) (by rw [hr.length]; exact hl)
  obtain ⟨Y, e1, e2, l, H'⟩ := dict_put (d' := .strs (storedM l x v)) H hs (let ⟨o, _, _, ho, _⟩ := hd; ⟨o, ho⟩) (fun Y e1 e2 => ⟨_, e1 ▸ hd, e2 ▸ hr.store rv⟩)
  exact ⟨Y, tk + 1, by rw [e1], l.mono fun b hb => by rw [List.mem_singleton.mp hb]; simp [dom], _, h, dom_mid, H'⟩
theorem DelD.int {l : List (Int × MV)} (hl : l.length ≤ sizeLine) (hi : (atM l i).isSome = true) (h : P (δ1 ++ (a, .ints (withoutM l i)) :: δ2)) : DelD B A (δ1 ++ (a, .ints l) :: δ2) (.dict a) (.int i) P := fun X u k e ⟨t, e'⟩ H tk => by
  subst e'; cases e
  obtain ⟨kvs, hD, hr⟩ := (H.at_ _ mem_mid).1
  obtain ⟨m, hm⟩ := Option.isSome_iff_exists.mp hi
  obtain ⟨w, hw, _⟩ := hr.some_ hm
  refine wpAny_delItem_slot hD.typeIs (by decide) PySem.F.slot_dict_delitem
    (call_meetsIn PySem.F.slot_dict_delitem hD.typeIs PySem.F.entry_dict_delitem (PySem.F.args_dict_delitem_2 _ _) (meets_dict_delitem_pairs (intKind PG B.w) a (k := i) (by simp [intKind, Value.isInt])) ⟨kvs, hD, (by rw [hr.length]; exact hl), by rw [hw]; rfl, fun h' hd hs => ?_⟩)
  obtain ⟨Y, e1, e2, l, H'⟩ := dict_put (d' := .ints (withoutM l i)) H hs (let ⟨o, _, _, ho, _⟩ := hd; ⟨o, ho⟩) (fun Y e1 e2 => ⟨_, e1 ▸ hd, e2 ▸ hr.drop⟩)
  exact ⟨Y, tk + 1, by rw [e1], l.mono fun b hb => by rw [List.mem_singleton.mp hb]; simp [dom], _, h, dom_mid, H'⟩
theorem CmpD.inD {l : List (Int × MV)} (hm : (a, DC.ints l) ∈ δ) (h : R (atM l i).isSome) : CmpD B A .In δ (.int i) (.dict a) R := fun X u v ⟨t, e⟩ e' H tk => by
  subst e; cases e'
  obtain ⟨⟨kvs, hD, hr⟩, _, hsys⟩ := H.at_ _ hm
  refine wpAny_in_of (knd := intKind PG B.w) (k := i) (by simp [intKind, Value.isInt]) hsys hD.mapOf ⟨X, tk + 1, rfl, Le.refl _ _, _, h, ?_⟩
  cases hl : atM l i with
  | none => rw [hr.none_ hl]; rfl
  | some m => obtain ⟨w, hw, _⟩ := hr.some_ hl; rw [hw]; rfl
theorem Sb.str {l : List (Str × MV)} {m : MV} {P : MV → Prop} (hm : (a, DC.strs l) ∈ δ) (hx : atM l x = some m) (h : P m) : Sb B A δ (.dict a) (.str x) P := fun X u v e ⟨t, e'⟩ H => by
  subst e'; cases e
  obtain ⟨⟨kvs, hD, hr⟩, _, hsys⟩ := H.at_ _ hm
  obtain ⟨w, hw, rw'⟩ := hr.some_ hx
  exact ⟨⟨"dict", _, fun tk => hD.typeIs, slot_dict_getitem.lookup⟩, fun tk =>
    wpAny_getItem_of (knd := PySem.strKind PG B.w) (k := x) (by simp [PySem.strKind, Value.isStrOf]) hD.mapOf hw ⟨X, tk + 1, rfl, Le.refl _ _, m, h, rw'⟩⟩
theorem gm_dict {δ : Ds} {dn : DC} (hm : (a, dn) ∈ δ) {X : Wd B} (H : DictsAt δ X) {name : Str} {id : String} (slot : Slot "dict" name id) (hty : typeOf (.builtin id) = pure (.type "method_descriptor")) {pl : Sem Bool} {tk : Nat} {Q : Value × List Value → Shared → Prop} {E : Value → Shared → Prop}
    (h : Q (.builtin id, [.ref a]) (St B X.h tk)) : wpAny B.M A (getMethod (.ref a) name pl) Q E (St B X.h tk) := by
  have ht : (St B X.h tk).TypeIs (.ref a) "dict" ∧ ∃ o, X.h.get? a = some o ∧ o.dict = none := by
    obtain ⟨q, _, _⟩ := H.at_ _ hm
    cases dn <;> (obtain ⟨kvs, hD, _⟩ := q; refine ⟨hD.typeIs, ?_⟩; obtain ⟨o, es, ep, ho, hx, _⟩ := hD; exact ⟨o, ho, hx.2.1⟩)
  exact getMethod_builtin ht.1 PySem.F.plainAttrs_dict slot hty (fun b e => by cases e; exact ht.2) h
theorem dict_get {l : List (Int × MV)} {Q : MV → Ds → Prop} (hm : (a, DC.ints l) ∈ δ) (h : Q ((atM l i).getD v) δ) : Co B A (.builtin "dict.get") [.dict a, .int i, v] δ Q := fun X vs ⟨u, r, e, e1, k, r2, e2, ⟨t, e3⟩, w, r3, e4, rv, e5⟩ H tk => by
  subst e2 e4 e3 e5 e; cases e1
  obtain ⟨⟨kvs, hD, hr⟩, _, hsys⟩ := H.at_ _ hm
  refine call_meetsIn PySem.F.slot_dict_get hD.typeIs PySem.F.entry_dict_get (PySem.F.args_dict_get_3 _ _ _) (meets_dict_get_default (intKind PG B.w) a (k := i) (by simp [intKind, Value.isInt]) hsys w) ⟨_, hD.mapOf, ?_⟩
  refine ⟨X, tk + 1, rfl, Le.refl _ _, _, δ, h, rfl, ?_, H⟩
  cases hl : atM l i with
  | none => rw [hr.none_ hl]; exact rv
  | some m => obtain ⟨w, hw, r⟩ := hr.some_ hl; rw [hw]; exact r

/-- {} -/
theorem Ev.dict0 {pos : Pos} {Q : MV → Ds → Prop} (h : ∀ a, Q (.dict a) (δ ++ [(a, .ints [])])) : Ev B A env (eval (.Dict [] [] pos) env) ρ δ Q := fun X I tk => by
  refine wpAny_Dict_empty ?_
  let o : Obj := { cls := .type "dict", data := .dict #[] }
  have hk : ∀ a x, X.h.get? a = some x → (X.h.push o).get? a = some x := fun a x e => Heap.get?_push_of_some _ e
  let Y : Wd B := X.more (X.h.push o) hk
  have l : Le [] X Y := Wd.more_le X
  have n : X.h.objs.size ∉ dom δ := fun q => by
    obtain ⟨p, hp, e⟩ := List.mem_map.mp q
    obtain ⟨o, ho⟩ := (I.dicts.at_ p hp).1.some_
    rw [e, no_at_size] at ho; cases ho
  have hs : (X.h.objs.size == sysModules) = false := by
    rw [Bool.eq_false_iff]
    intro q
    have q' : X.h.objs.size = 1 := eq_of_beq q
    obtain ⟨_, _, m, hm⟩ := I.loc
    have g : X.h.Ns mainGlobals B.mg := B.T.g.keeps X.keepsB
    obtain ⟨o, _, _, ho, _⟩ := g
    have := Heap.lt_size ho
    rw [q'] at this
    exact absurd this (by decide)
  have H : DictsAt (δ ++ [(X.h.objs.size, .ints [])]) Y := by
    refine ⟨fun p hp => ?_, ?_⟩
    · rcases List.mem_append.mp hp with h | h
      · exact (I.dicts.here l).at_ p h
      · rw [List.mem_singleton.mp h]
        exact ⟨⟨[], Heap.DictOf.new _, rfl⟩, X.gsize, hs⟩
    · show (List.map _ _).Nodup
      rw [List.map_append, List.nodup_append]
      exact ⟨I.dicts.nodup, by simp, fun x hx y hy => by simp at hy; subst hy; exact fun e => n (e ▸ hx)⟩
  have nd : NewDom X δ (δ ++ [(X.h.objs.size, .ints [])]) := fun b hb => by
    rw [show dom (δ ++ [(X.h.objs.size, DC.ints [])]) = dom δ ++ [X.h.objs.size] by simp [dom]] at hb
    rcases List.mem_append.mp hb with q | q
    · exact .inl q
    · rw [List.mem_singleton.mp q]; exact .inr (no_at_size _)
  exact ⟨Y, tk, rfl, l.mono (fun _ h => nomatch h), .dict X.h.objs.size, _, h _, rfl, I.next l (fun _ h => nomatch h) H nd, nd⟩
end
end Mine

/- part PD -/
namespace Mine
open PySem PySem.W PySem.Calls PyProof.Rows

/-- the items that a slice of a tuple picks -/
noncomputable def tsl {α : Type} (l : List α) (lo hi st : Option Int) : List α :=
  (List.range (Builtin.Slice.slicePlaces (Builtin.Slice.sliceAdjust lo hi (st.getD 1) l.length).1 (Builtin.Slice.sliceAdjust lo hi (st.getD 1) l.length).2 (st.getD 1))).filterMap
    fun (k : Nat) => l[((Builtin.Slice.sliceAdjust lo hi (st.getD 1) l.length).1 + (k : Int) * (st.getD 1)).toNat]?
theorem pick_run' {α : Type} (l : List α) (a : Nat) : ∀ n, (List.range n).filterMap (fun k => l[a + k]?) = (l.drop a).take n
  | 0 => by simp
  | n + 1 => by
    rw [List.range_succ, List.filterMap_append, pick_run' l a n, List.take_add_one, List.getElem?_drop, List.filterMap_cons, List.filterMap_nil]
    cases l[a + n]? <;> rfl
theorem fm_congr {α β : Type} {f g : α → Option β} : ∀ {l : List α}, (∀ x ∈ l, f x = g x) → l.filterMap f = l.filterMap g
  | [], _ => rfl
  | x :: r, h => by rw [List.filterMap_cons, List.filterMap_cons, h x List.mem_cons_self, fm_congr fun y hy => h y (List.mem_cons_of_mem _ hy)]
theorem tsl_drop {α : Type} (l : List α) (a : Nat) : tsl l (some (a : Int)) none none = l.drop a := by
  unfold tsl
  have hadj : Builtin.Slice.sliceAdjust (some (a : Int)) none ((none : Option Int).getD 1) l.length = (((min a l.length : Nat) : Int), (l.length : Int)) := by
    unfold Builtin.Slice.sliceAdjust
    simp only [Option.getD_none]
    have h1 : ¬ ((1 : Int) < 0) := by omega
    have h2 : ¬ ((a : Int) < 0) := by omega
    simp only [h1, h2, if_false]
    congr 1
    omega
  rw [hadj]
  have hp : Builtin.Slice.slicePlaces ((min a l.length : Nat) : Int) (l.length : Int) ((none : Option Int).getD 1) = l.length - min a l.length := by
    unfold Builtin.Slice.slicePlaces
    simp only [Option.getD_none]
    have h1 : (1 : Int) > 0 := by omega
    simp only [h1, if_true, Int.ediv_one]
    split <;> omega
  rw [hp, fm_congr (g := fun k => l[min a l.length + k]?) fun k _ => by
    congr 1
    simp only [Option.getD_none]
    omega, pick_run']
  rw [List.take_of_length_le (by simp)]
  by_cases h : a ≤ l.length
  · rw [Nat.min_eq_left h]
  · rw [Nat.min_eq_right (by omega), List.drop_length, List.drop_of_length_le (by omega)]
theorem tsl_take {α : Type} (l : List α) (a : Nat) : tsl l none (some (a : Int)) none = l.take a := by
  unfold tsl
  have hadj : Builtin.Slice.sliceAdjust none (some (a : Int)) ((none : Option Int).getD 1) l.length = (0, ((min a l.length : Nat) : Int)) := by
    unfold Builtin.Slice.sliceAdjust
    simp only [Option.getD_none]
    have h1 : ¬ ((1 : Int) < 0) := by omega
    have h2 : ¬ ((a : Int) < 0) := by omega
    simp only [h1, h2, if_false]
    congr 1
    omega
  rw [hadj]
  have hp : Builtin.Slice.slicePlaces 0 ((min a l.length : Nat) : Int) ((none : Option Int).getD 1) = min a l.length := by
    unfold Builtin.Slice.slicePlaces
    simp only [Option.getD_none]
    have h1 : (1 : Int) > 0 := by omega
    simp only [h1, if_true, Int.ediv_one]
    split <;> omega
  rw [hp, fm_congr (g := fun k => l[0 + k]?) fun k _ => by
    congr 1
    simp only [Option.getD_none]
    omega, pick_run']
  rw [List.drop_zero]
  by_cases h : a ≤ l.length
  · rw [Nat.min_eq_left h]
  · rw [Nat.min_eq_right (by omega), List.take_length, List.take_of_length_le (by omega)]
theorem tsl_init {α : Type} (l : List α) : tsl l none (some (-1)) none = l.dropLast := by
  unfold tsl
  have hadj : Builtin.Slice.sliceAdjust none (some (-1)) ((none : Option Int).getD 1) l.length = (0, ((l.length - 1 : Nat) : Int)) := by
    unfold Builtin.Slice.sliceAdjust
    simp only [Option.getD_none]
    have h1 : ¬ ((1 : Int) < 0) := by omega
    have h2 : ((-1 : Int) < 0) := by omega
    simp only [h1, h2, if_true, if_false]
    congr 1
    omega
  rw [hadj]
  have hp : Builtin.Slice.slicePlaces 0 ((l.length - 1 : Nat) : Int) ((none : Option Int).getD 1) = l.length - 1 := by
    unfold Builtin.Slice.slicePlaces
    simp only [Option.getD_none]
    have h1 : (1 : Int) > 0 := by omega
    simp only [h1, if_true, Int.ediv_one]
    split <;> omega
  rw [hp, fm_congr (g := fun k => l[0 + k]?) fun k _ => by
    congr 1
    simp only [Option.getD_none]
    omega, pick_run']
  rw [List.drop_zero, List.dropLast_eq_take]
theorem tsl_rev {α : Type} (l : List α) : tsl l none none (some (-1)) = l.reverse := by
  unfold tsl
  have hadj : Builtin.Slice.sliceAdjust none none ((some (-1) : Option Int).getD 1) l.length = ((l.length : Int) - 1, -1) := by
    unfold Builtin.Slice.sliceAdjust
    simp only [Option.getD_some]
    have h1 : ((-1 : Int) < 0) := by omega
    simp only [h1, if_true]
  rw [hadj]
  have hp : Builtin.Slice.slicePlaces ((l.length : Int) - 1) (-1) ((some (-1) : Option Int).getD 1) = l.length := by
    unfold Builtin.Slice.slicePlaces
    simp only [Option.getD_some]
    have h1 : ¬ ((-1 : Int) > 0) := by omega
    have h2 : (-(-1 : Int)) = 1 := by omega
    simp only [h1, if_false, h2, Int.ediv_one]
    split <;> omega
  rw [hp, fm_congr (g := fun k => l.reverse[0 + k]?) fun k hk => by
    have hk' := List.mem_range.mp hk
    simp only [Option.getD_some, Nat.zero_add]
    rw [List.getElem?_reverse hk']
    congr 1
    omega, pick_run', List.drop_zero, List.take_of_length_le (by simp)]

theorem RepL.picks {C : Cx} {g : Gh} {l : List MV} {vs : List Value} (r : RepL C g l vs) (f : Nat → Nat) : ∀ ks : List Nat, RepL C g (ks.filterMap fun k => l[f k]?) (ks.filterMap fun k => vs[f k]?)
  | [] => rfl
  | k :: ks => by
    have ih := RepL.picks r f ks
    rw [List.filterMap_cons, List.filterMap_cons]
    cases e : l[f k]? with
    | none =>
      have : vs[f k]? = none := by
        have := List.getElem?_eq_none_iff.mp e
        exact List.getElem?_eq_none_iff.mpr (by rw [r.length]; exact this)
      rw [this]; exact ih
    | some m => obtain ⟨v, hv, rv⟩ := r.get e; rw [hv]; exact ⟨v, _, rfl, rv, ih⟩
theorem RepL.tsl {C : Cx} {g : Gh} {l : List MV} {vs : List Value} (r : RepL C g l vs) (lo hi st : Option Int) : RepL C g (tsl l lo hi st) (tsl vs lo hi st) := by
  unfold Mine.tsl
  rw [r.length]
  exact r.picks _ _
/-- a part of a slice -/
noncomputable def PartOf : MV → Option Int → Prop
  | .none, o => o = none
  | .int i, o => o = some i
  | _, _ => False
theorem PartOf.is {C : Cx} {g : Gh} {m : MV} {o : Option Int} {v : Value} (h : PartOf m o) (r : RepV C g m v) : IsPart v o := by
  cases m <;> first
    | (cases h; cases r; exact .none; done)
    | (cases h; obtain ⟨t, e⟩ := r; subst e; exact .int _ _; done)
    | exact h.elim

section
variable {prog : Program} {w : World} {A : Around} {E : Value → Shared → Prop} {s : Shared}
theorem slicePart_is {v : Value} {o : Option Int} {Q : Option Int → Shared → Prop} (hv : IsPart v o) (h : Q o s) : wpAny (model prog w) A (Builtin.Slice.slicePartIndex v) Q E s := by
  cases hv with
  | none => exact PyProof.Rows.slicePart_none h
  | int i t => exact PyProof.Rows.slicePart_int h
theorem sliceApplied_gen {sl : Addr} {vl vu vs : Value} {lo hi st : Option Int} {n : Nat} {Q : Int × Int × Nat → Shared → Prop} (hs : s.heap.IsSliceOf sl vl vu vs) (pl : IsPart vl lo) (pu : IsPart vu hi) (ps : IsPart vs st) (h0 : st ≠ some 0)
    (h : Q ((Builtin.Slice.sliceAdjust lo hi (st.getD 1) n).1, st.getD 1, Builtin.Slice.slicePlaces (Builtin.Slice.sliceAdjust lo hi (st.getD 1) n).1 (Builtin.Slice.sliceAdjust lo hi (st.getD 1) n).2 (st.getD 1)) s) :
    wpAny (model prog w) A (Builtin.Slice.sliceApplied (.ref sl) (pure (n : Int))) Q E s := by
  obtain ⟨os, hos, hcs, hds⟩ := id hs
  unfold Builtin.Slice.sliceApplied Builtin.Slice.sliceFields
  refine wpAny_bind (wpAny_bind (wpAny_field hos hds (x := vl) rfl (wpAny_bind (wpAny_field hos hds (x := vu) rfl (wpAny_bind (wpAny_field hos hds (x := vs) rfl (wpAny_pure ?_)))))))
  refine wpAny_bind (slicePart_is ps ?_)
  have hne : ¬ ((st.getD 1 == 0) = true) := by
    intro q
    have := eq_of_beq q
    cases st with
    | none => simp at this
    | some c => exact h0 (by simpa using this)
  show wpAny _ _ (if (st.getD 1 == 0) = true then _ else _) _ _ s
  rw [if_neg hne]
  refine wpAny_bind (slicePart_is pl (wpAny_bind (slicePart_is pu (wpAny_bind (wpAny_pure ?_)))))
  exact wpAny_pure h
theorem getItem_tuple_gen {t sl : Addr} {items : Array Value} {vl vu vs : Value} {lo hi st : Option Int} {Q : Value → Shared → Prop} (ht : IsTup s.heap t items) (hs : s.heap.IsSliceOf sl vl vu vs) (pl : IsPart vl lo) (pu : IsPart vu hi) (ps : IsPart vs st) (h0 : st ≠ some 0)
    (hw : tsl items.toList lo hi st = items.toList → Q (.ref t) s)
    (h : Q (.ref s.heap.objs.size) { s with heap := s.heap.push { cls := .type "tuple", data := .seq (tsl items.toList lo hi st).toArray } })
    (hsz : (tsl items.toList lo hi st).length ≤ sizeLine) : wpAny (model prog w) A (getItem (.ref t) (.ref sl)) Q E s := by
  have hdrop : sizeOk (.seq (tsl items.toList lo hi st).toArray) := by
    show (tsl items.toList lo hi st).toArray.size ≤ sizeLine
    rw [List.size_toArray]; exact hsz
  obtain ⟨os, hos, hcs, hds⟩ := id hs
  have hTs : s.TypeIs (.ref sl) "slice" := ⟨os, hos, hcs⟩
  unfold getItem
  try with_reducible refine wpAny_holding ?_
  first | refine wpAny_bind (wpAny_pure ?_) | skip
  refine wpAny_bind (wpAny_sequenceKey ht.typeIs (by decide) ?_)
  refine wpAny_bind (wpAny_callSpecial?_slot (name := Str.ofString "__getitem__") ht.typeIs slot_tuple_getitem
    (wpAny_call_entry slot_tuple_getitem ht.typeIs entry_tuple_getitem ?_ (args_tuple_getitem _ _)))
  show wpAny _ _ (Builtin.Tuple.tupleItemsOf (.ref t) >>= _) _ _ s
  refine wpAny_bind (tupleItemsOf_ ht ?_)
  refine wpAny_bind (wpAny_typeOf hTs ?_)
  rw [if_pos (by decide)]
  refine wpAny_bind (sliceApplied_gen (n := items.size) hs pl pu ps h0 ?_)
  have e1 : items.size = items.toList.length := by simp
  have e2 : (fun (k : Nat) => items[((Builtin.Slice.sliceAdjust lo hi (st.getD 1) items.size).1 + (k : Int) * (st.getD 1)).toNat]?) = fun (k : Nat) => items.toList[((Builtin.Slice.sliceAdjust lo hi (st.getD 1) items.toList.length).1 + (k : Int) * (st.getD 1)).toNat]? := by
    funext k; rw [← e1, Array.getElem?_toList]
  dsimp only
  have hp := h
  unfold tsl at hp hdrop
  rw [← e1] at hp hdrop
  have e3 : (fun (k : Nat) => items.toList[((Builtin.Slice.sliceAdjust lo hi (st.getD 1) items.size).1 + (k : Int) * (st.getD 1)).toNat]?) = fun (k : Nat) => items[((Builtin.Slice.sliceAdjust lo hi (st.getD 1) items.size).1 + (k : Int) * (st.getD 1)).toNat]? := by
    funext k; rw [Array.getElem?_toList]
  rw [e3] at hp hdrop
  refine wpAny_ite_split (fun hc => ?_) (fun _ => ?_)
  · have hc' : tsl items.toList lo hi st = items.toList := by
      simp only [Bool.and_eq_true, beq_iff_eq] at hc
      obtain ⟨⟨c1, c2⟩, c3⟩ := hc
      unfold tsl
      rw [← e1, c3, c1, c2]
      rw [fm_congr (g := fun k => items.toList[0 + k]?) fun k _ => by congr 1; omega, pick_run', List.drop_zero, List.take_of_length_le (by simp)]
    unfold Builtin.Tuple.tupleIsExact
    refine wpAny_bind (wpAny_bind (wpAny_typeOf ht.typeIs (wpAny_pure ?_)))
    rw [if_pos (by decide)]
    exact wpAny_bind (wpAny_rule (wpAny_bind (wpAny_pure (wpAny_pure ⟨_, rfl, wpAny_pure (hw hc')⟩))))
  · first
    | exact wpAny_bind (m := Builtin.Tuple.tupleExact _) (wpAny_newObj_type (wpAny_pure ⟨_, rfl, wpAny_pure hp⟩) hdrop)
    | exact wpAny_bind (m := Builtin.Tuple.tupleExact _) (wpAny_newObj_type (wpAny_bind (wpAny_pure (wpAny_pure ⟨_, rfl, wpAny_pure hp⟩))) hdrop)
    | exact wpAny_bind (wpAny_bind (m := Builtin.Tuple.tupleExact _) (wpAny_newObj_type (wpAny_pure (wpAny_pure ⟨_, rfl, wpAny_pure hp⟩)) hdrop))
end
end Mine

/- part PE -/
namespace Mine
open PySem PySem.W PySem.Calls PyProof.Rows

section
variable {B : Bs} {A : Around} {env : Env} {ρ : Vs} {δ δ' δ1 δ2 : Ds} {X Y : Wd B} {P : MV → Prop} {i j : Int} {x : Str} {l l' : List MV} {m : MV}

theorem slz : sizeLine < 2 ^ 63 := by decide
theorem Sb.listI {k : Nat} (hl : l.length ≤ sizeLine) (hk : l[k]? = some m) (h : P m) : Sb B A δ (.lst l) (.int k) P := fun X u v ⟨a, vs, n, e, hg, rl⟩ ⟨t, e'⟩ H => by
  subst e e'
  obtain ⟨w, hw, rw'⟩ := rl.get hk
  have hlt : k < l.length := (List.getElem?_eq_some_iff.mp hk).1
  have hT : ∀ tk, (St B X.h tk).TypeIs (.ref a) "list" := fun tk => ⟨_, X.sub _ _ hg, rfl⟩
  exact ⟨⟨"list", _, hT, slot_list_getitem.lookup⟩, fun tk =>
    wpAny_getItem_list ⟨_, X.sub _ _ hg, rfl, n, rfl⟩ (by omega) (by have := slz; omega) (by simpa using hw) ⟨X, tk, rfl, Le.refl _ _, m, h, rw'⟩⟩
theorem Sb.tupI {k : Nat} (hl : l.length ≤ sizeLine) (hk : l[k]? = some m) (h : P m) : Sb B A δ (.tup l) (.int k) P := fun X u v ⟨a, vs, n, e, hg, rl⟩ ⟨t, e'⟩ H => by
  subst e e'
  obtain ⟨w, hw, rw'⟩ := rl.get hk
  have hlt : k < l.length := (List.getElem?_eq_some_iff.mp hk).1
  have hT : ∀ tk, (St B X.h tk).TypeIs (.ref a) "tuple" := fun tk => ⟨_, X.sub _ _ hg, rfl⟩
  exact ⟨⟨"tuple", _, hT, slot_tuple_getitem.lookup⟩, fun tk =>
    PyProof.Rows.getItem_tuple (j := k) ⟨_, X.sub _ _ hg, rfl, n, rfl⟩ (by omega) (by have := slz; omega) (by
      unfold seqIndex?
      have h1 : ¬ ((k : Int) < 0) := by omega
      have h2 : (k : Int) < vs.toArray.size := by rw [List.size_toArray, rl.length]; omega
      simp [h1]
      have := rl.length
      omega) (by simpa using hw) ⟨X, tk, rfl, Le.refl _ _, m, h, rw'⟩⟩
theorem Sb.tupS {lo hi st : MV} {a b c : Option Int} (hl : (tsl l a b c).length ≤ sizeLine) (ha : PartOf lo a) (hb : PartOf hi b) (hc : PartOf st c) (h0 : c ≠ some 0) (h : P (.tup (tsl l a b c))) : Sb B A δ (.tup l) (.slc lo hi st) P :=
  fun X u v ⟨ad, vs, n, e, hg, rl⟩ ⟨sl, vl, vu, vst, e', hs, r1, r2, r3⟩ H => by
  subst e e'
  have hT : ∀ tk, (St B X.h tk).TypeIs (.ref ad) "tuple" := fun tk => ⟨_, X.sub _ _ hg, rfl⟩
  have rr : RepL B.C X.g (tsl l a b c) (tsl vs a b c) := rl.tsl a b c
  refine ⟨⟨"tuple", _, hT, slot_tuple_getitem.lookup⟩, fun tk => getItem_tuple_gen (items := vs.toArray) ⟨_, X.sub _ _ hg, rfl, n, rfl⟩ ⟨_, X.sub _ _ hs, rfl, rfl⟩ (ha.is r1) (hb.is r2) (hc.is r3) h0 (fun e => ?_) ?_ (show (tsl vs a b c).length ≤ sizeLine from rr.length.symm ▸ hl)⟩
  · refine ⟨X, tk, rfl, Le.refl _ _, _, h, ad, vs, n, rfl, hg, ?_⟩
    have e' : tsl vs a b c = vs := by simpa using e
    rw [e'] at rr; exact rr
  · have l₂ := Wd.push_le X (tupO (tsl vs a b c))
    exact ⟨X.push (tupO (tsl vs a b c)), tk, rfl, l₂, _, h, _, _, 0, rfl, Wd.push_at X _, l₂.repL rr⟩
theorem Bin.addL (hl : l.length + l'.length ≤ sizeLine) (h : P (.lst (l ++ l'))) : Bin B A .Add (.lst l) (.lst l') P := fun X u v ⟨a, vs, n, e, hg, rl⟩ ⟨b, ws, k, e', hg', rl'⟩ tk => by
  subst e e'
  have e : vs.toArray ++ ws.toArray = (vs ++ ws).toArray := by simp
  refine concat_meets ⟨_, X.sub _ _ hg, rfl⟩ ⟨_, X.sub _ _ hg', rfl⟩ noFill_list_add seq_list_add PySem.F.slot_list_add PySem.F.entry_list_add (PySem.F.args_list_add_2 _ _) (list_addW a b vs.toArray ws.toArray n k _ _ _ _ (by simpa [rl.length, rl'.length] using hl)) ⟨X.sub _ _ hg, X.sub _ _ hg', ?_⟩
  rw [e]
  have l₂ := Wd.push_le X (lstO (vs ++ ws))
  exact ⟨X.push (lstO (vs ++ ws)), tk, rfl, l₂, _, h, _, _, 0, rfl, Wd.push_at X _, l₂.repL (rl.append rl')⟩
theorem Bin.addT (hl : l.length + l'.length ≤ sizeLine) (h : P (.tup (l ++ l'))) : Bin B A .Add (.tup l) (.tup l') P := fun X u v ⟨a, vs, n, e, hg, rl⟩ ⟨b, ws, k, e', hg', rl'⟩ tk => by
  subst e e'
  have e : vs.toArray ++ ws.toArray = (vs ++ ws).toArray := by simp
  by_cases hv : vs = []
  · have : l = [] := List.length_eq_zero_iff.mp (by rw [← rl.length, hv]; rfl)
    subst this hv
    exact concat_meets ⟨_, X.sub _ _ hg, rfl⟩ ⟨_, X.sub _ _ hg', rfl⟩ noFill_tuple_add seq_tuple_add PySem.F.slot_tuple_add PySem.F.entry_tuple_add (PySem.F.args_tuple_add_2 _ _)
      (tuple_addW0 a b (([] : List Value)).toArray ws.toArray n k _ _ _ _ (by simp)) ⟨X.sub _ _ hg, X.sub _ _ hg', X, tk, rfl, Le.refl _ _, _, h, b, ws, k, rfl, hg', rl'⟩
  · by_cases hw : ws = []
    · have : l' = [] := List.length_eq_zero_iff.mp (by rw [← rl'.length, hw]; rfl)
      subst this hw
      exact concat_meets ⟨_, X.sub _ _ hg, rfl⟩ ⟨_, X.sub _ _ hg', rfl⟩ noFill_tuple_add seq_tuple_add PySem.F.slot_tuple_add PySem.F.entry_tuple_add (PySem.F.args_tuple_add_2 _ _)
        (tuple_addW1 a b vs.toArray ([] : List Value).toArray n k _ _ _ _ (by simpa using hv) (by simp)) ⟨X.sub _ _ hg, X.sub _ _ hg', X, tk, rfl, Le.refl _ _, _, h, a, vs, n, rfl, hg, by rw [List.append_nil]; exact rl⟩
    · refine concat_meets ⟨_, X.sub _ _ hg, rfl⟩ ⟨_, X.sub _ _ hg', rfl⟩ noFill_tuple_add seq_tuple_add PySem.F.slot_tuple_add PySem.F.entry_tuple_add (PySem.F.args_tuple_add_2 _ _)
        (tuple_addW2 a b vs.toArray ws.toArray n k _ _ _ _ (by simpa using hv) (by simpa using hw) (by simpa [rl.length, rl'.length] using hl)) ⟨X.sub _ _ hg, X.sub _ _ hg', ?_⟩
      rw [e]
      have l₂ := Wd.push_le X (tupO (vs ++ ws))
      exact ⟨X.push (tupO (vs ++ ws)), tk, rfl, l₂, _, h, _, _, 0, rfl, Wd.push_at X _, l₂.repL (rl.append rl')⟩
/-- tuple(list) -/
theorem tup_list (hl : l.length ≤ sizeLine) (h : P (.tup l)) : Cq B A (.type "tuple") [.lst l] P := fun X us ⟨v, r, e, ⟨a, vs, n, e1, hg, rl⟩, e2⟩ tk => by
  subst e1 e2 e
  refine call_tuple_list (items := vs.toArray) ⟨_, X.sub _ _ hg, rfl, n, rfl⟩ (fun h' hk => ?_) (by simpa [rl.length] using hl)
  have l₁ : Le [] X (X.more h' hk) := Wd.more_le X
  have l₂ := Wd.push_le (X.more h' hk) (tupO vs)
  exact ⟨(X.more h' hk).push (tupO vs), tk, rfl, l₁.trans l₂ (fun _ h => nomatch h), _, h, _, vs, 0, rfl, Wd.push_at (X.more h' hk) _, l₂.repL (l₁.repL rl)⟩
theorem lst_tup (hl : l.length ≤ sizeLine) (h : P (.lst l)) : Cq B A (.type "list") [.tup l] P := fun X us ⟨v, r, e, ⟨a, vs, n, e1, hg, rl⟩, e2⟩ tk => by
  subst e1 e2 e
  refine call_list_seq a (.inr rfl) (X.sub _ _ hg) rfl rfl (fun h' c' hk hD => ?_) (by simpa [rl.length] using hl)
  have hD' : (X.more h' hk).h.get? X.h.objs.size = some (lstO vs c') := hD
  have l₁ : Le [] X (X.more h' hk) := Wd.more_le X
  exact ⟨(X.more h' hk).fix _ _ hD' X.gsize, tk, rfl, l₁.fix (no_at_size _), _, h, _, vs, c', rfl, Wd.fix_at _, RepL.mono (Wd.fix_g _) l rl⟩
theorem lst_lst (hl : l.length ≤ sizeLine) (h : P (.lst l)) : Cq B A (.type "list") [.lst l] P := fun X us ⟨v, r, e, ⟨a, vs, n, e1, hg, rl⟩, e2⟩ tk => by
  subst e1 e2 e
  refine call_list_seq a (.inl rfl) (X.sub _ _ hg) rfl rfl (fun h' c' hk hD => ?_) (by simpa [rl.length] using hl)
  have hD' : (X.more h' hk).h.get? X.h.objs.size = some (lstO vs c') := hD
  have l₁ : Le [] X (X.more h' hk) := Wd.more_le X
  exact ⟨(X.more h' hk).fix _ _ hD' X.gsize, tk, rfl, l₁.fix (no_at_size _), _, h, _, vs, c', rfl, Wd.fix_at _, RepL.mono (Wd.fix_g _) l rl⟩
/-- list(dict) -/
theorem repL_keys {C : Cx} {g : Gh} {kl : List (Int × MV)} {kvs : List (Int × Value)} {acc : Array Value} (hk : RepKV C g kl kvs) (ha : ItemsOf (fun i v => ∃ k x, kvs[i]? = some (k, x) ∧ (intKind PG B.w).is k v = true) acc kvs.length) :
    RepL C g (kl.map fun p => .int p.1) acc.toList := by
  refine RepL.of_get (by rw [Array.length_toList, ha.1, List.length_map, hk.length]) fun i m v e1 e2 => ?_
  rw [Array.getElem?_toList] at e2
  obtain ⟨k, x, hx, hv⟩ := ha.2 i v e2
  obtain ⟨t, rfl⟩ := Value.isInt_shape hv
  rw [List.getElem?_map] at e1
  have := hk.keys
  have h1 : (kvs.map (·.1))[i]? = some k := by rw [List.getElem?_map, hx]; rfl
  rw [this, List.getElem?_map] at h1
  cases hq : kl[i]? with
  | none => rw [hq] at h1; cases h1
  | some p => rw [hq] at e1 h1; cases e1; cases h1; exact ⟨t, rfl⟩
theorem lst_dict {a : Addr} {kl : List (Int × MV)} {Q : MV → Ds → Prop} (hA : A.handled = none) (hm : (a, DC.ints kl) ∈ δ) (hl : kl.length ≤ sizeLine) (h : Q (.lst (kl.map fun p => .int p.1)) δ) : Co B A (.type "list") [.dict a] δ Q := fun X us ⟨v, r, e, e1, e2⟩ H tk => by
  subst e2 e; cases e1
  obtain ⟨⟨kvs, hD, hr⟩, _, hsys⟩ := H.at_ _ hm
  obtain ⟨ep, hat⟩ := hD.dictAt
  refine kdl_call (kdl_dict (knd := intKind PG B.w) (kvs := kvs) (ep := ep) hsys) hA hat (by rw [hr.length]; exact hl) fun h' tk' acc c' hk hD' hacc => ?_
  have hD2 : (X.more h' hk).h.get? X.h.objs.size = some (lstO acc.toList c') := by
    show h'.get? _ = some { cls := .type "list", data := .seq acc.toList.toArray c' }
    rw [Array.toArray_toList]; exact hD'
  have l₁ : Le [] X (X.more h' hk) := Wd.more_le X
  have l₂ : Le [] X ((X.more h' hk).fix _ _ hD2 X.gsize) := l₁.fix (no_at_size _)
  exact ⟨(X.more h' hk).fix _ _ hD2 X.gsize, tk', rfl, l₂.mono (fun _ h => nomatch h), _, δ, h, rfl, ⟨_, acc.toList, c', rfl, Wd.fix_at _, RepL.mono (Wd.fix_g _) _ (repL_keys hr hacc)⟩, H.here l₂⟩
theorem str_int (hi : i.natAbs.log2 < 1920) (h : P (.str (Str.ofString (toString i)))) : Cq B A (.type "str") [.int i] P := fun X us ⟨v, r, e, ⟨t, e1⟩, e2⟩ tk => by
  subst e1 e2 e
  exact PySem.P.str_of_int hi ⟨X, tk + 1, rfl, Le.refl _ _, _, h, _, rfl⟩

/-- iterations -/
theorem It.mk {R : List MV → Prop} {v : Value} {fp : List Addr} {Pv : Nat → Value → Prop} {S : Nat → Heap → Prop} {items : List MV} {oI : Obj} {X : Wd B} 
    (hit : ∀ tk (Q : Value → Shared → Prop) (E : Value → Shared → Prop), Q (.ref X.h.objs.size) { St B X.h tk with heap := X.h.push oI } → wpAny B.M A (pyIter v) Q E (St B X.h tk))
    (W : Walks PG B.w A X.h.objs.size fp [X.h.objs.size] items.length Pv S) (hS : S 0 (X.h.push oI)) (hfp : ∀ b ∈ fp, b = X.h.objs.size ∨ ∃ o, X.g b = some o) (hob : ∀ i h, S i h → ∃ o, h.get? X.h.objs.size = some o)
    (hP : ∀ i u, i < items.length → Pv i u → ∃ m', items[i]? = some m' ∧ RepV B.C X.g m' u) (hR : R items) :
    Rn B A [] (pyIter v) X (fun it Y => ∃ items I fp P S, R items ∧ it = .ref I ∧ Walks PG B.w A I fp [I] items.length P S ∧ S 0 Y.h ∧
    (∀ b ∈ fp, b = I ∨ (∃ o, Y.g b = some o)) ∧ X.h.get? I = none ∧ Y.g I = none ∧ (∀ i h, S i h → ∃ o, h.get? I = some o) ∧
    ∀ i u, i < items.length → P i u → ∃ m', items[i]? = some m' ∧ RepV B.C Y.g m' u) := fun tk =>
  hit tk _ _ ⟨X.more (X.h.push oI) (fun a x e => Heap.get?_push_of_some _ e), tk, rfl, Wd.more_le X, items, _, fp, Pv, S, hR, rfl, W, hS, hfp, no_at_size _, X.gsize, hob, hP⟩
theorem It.list (hA : A.handled = none) : It B A δ (.lst l) (· = l) := fun X v ⟨a, vs, n, e, hg, rl⟩ H => by
  subst e
  have hl : X.h.IsList a vs.toArray := ⟨_, X.sub _ _ hg, rfl, n, rfl⟩
  have hne : a ≠ X.h.objs.size := Nat.ne_of_lt (Heap.lt_size (X.sub _ _ hg))
  have hsz : vs.toArray.size = l.length := by simp [rl.length]
  refine It.mk (oI := { cls := .type "list_iterator", data := .fields #[.ref a, .int 0 0] }) (fun tk Q E hq => wpAny_pyIter_list hl hq) (hsz ▸ Walks.list hA X.h.objs.size a hne vs.toArray) ⟨⟨_, Heap.get?_push_size _ rfl, rfl, rfl⟩, ⟨_, Heap.get?_push_of_some _ (X.sub _ _ hg), rfl, n, rfl⟩⟩ (fun b hb => ?_)
    (fun i h ⟨⟨o, ho, _⟩, _⟩ => ⟨o, ho⟩) (fun i u hi hu => rl.get' (by simpa using hu)) rfl
  rcases List.mem_cons.mp hb with q | q
  · exact .inl q
  · rw [List.mem_singleton.mp q]; exact .inr ⟨_, hg⟩
theorem It.tup (hA : A.handled = none) : It B A δ (.tup l) (· = l) := fun X v ⟨a, vs, n, e, hg, rl⟩ H => by
  subst e
  have hl : X.h.IsTuple a vs.toArray := ⟨_, X.sub _ _ hg, rfl, n, rfl⟩
  have hne : a ≠ X.h.objs.size := Nat.ne_of_lt (Heap.lt_size (X.sub _ _ hg))
  have hsz : vs.toArray.size = l.length := by simp [rl.length]
  refine It.mk (oI := { cls := .type "tuple_iterator", data := .fields #[.ref a, .int 0 0] }) (fun tk Q E hq => wpAny_pyIter_tuple hl hq) (hsz ▸ Walks.tuple hA X.h.objs.size a hne vs.toArray) ⟨⟨_, Heap.get?_push_size _ rfl, rfl, rfl⟩, ⟨_, Heap.get?_push_of_some _ (X.sub _ _ hg), rfl, n, rfl⟩⟩ (fun b hb => ?_)
    (fun i h ⟨⟨o, ho, _⟩, _⟩ => ⟨o, ho⟩) (fun i u hi hu => rl.get' (by simpa using hu)) rfl
  rcases List.mem_cons.mp hb with q | q
  · exact .inl q
  · rw [List.mem_singleton.mp q]; exact .inr ⟨_, hg⟩
theorem It.rng {a b : Int} (hA : A.handled = none) (ha : 0 ≤ a) (hab : a ≤ b) (hb : b ≤ 2 ^ 24) : It B A δ (.rng a b) (· = (List.range (b - a).toNat).map fun (k : Nat) => .int (a + k)) := fun X v ⟨r, t, u, z, e, hg⟩ H => by
  subst e
  have hsmall : Builtin.Range.small a b 1 = true := small_one (by omega) (by omega) (by omega) (by omega)
  have hn : Builtin.Range.rangeSize a b 1 = ((b - a).toNat : Int) := by rw [rangeSize_one]; split <;> omega
  have hlen : ((List.range (b - a).toNat).map fun k => MV.int (a + (k : Nat))).length = (b - a).toNat := by simp
  refine It.mk (fun tk Q E hq => wpAny_pyIter_range (X.sub _ _ hg) hsmall hq) (hlen ▸ Walks.range hA X.h.objs.size a 1 (b - a).toNat) ?_ (fun b hb => .inl (List.mem_singleton.mp hb)) (fun i h ho => ⟨_, ho⟩) (fun i u hi hu => ?_) rfl
  · rw [hn]
    show (X.h.push _).get? _ = _
    rw [Heap.get?_push_size _ rfl]
    simp [rawInt]
  · obtain ⟨t', rfl⟩ := hu
    refine ⟨.int (a + i), ?_, ⟨t', by simp⟩⟩
    rw [hlen] at hi
    rw [List.getElem?_map, List.getElem?_range hi]; rfl
theorem range1 (h : P (.rng 0 i)) : Cq B A (.type "range") [.int i] P := fun X us ⟨v, r, e, ⟨t, e1⟩, e2⟩ tk => by
  subst e1 e2 e
  refine call_range_1 ?_
  have l₂ := Wd.push_le X { cls := .type "range", data := .fields #[.int 0 tk, .int i t, .int 1 (tk + 1)] }
  exact ⟨X.push { cls := .type "range", data := .fields #[.int 0 tk, .int i t, .int 1 (tk + 1)] }, tk + 1 + 1, rfl, l₂, _, h, _, _, _, _, rfl, Wd.push_at X _⟩
theorem range2 (h : P (.rng i j)) : Cq B A (.type "range") [.int i, .int j] P := fun X us ⟨v, r, e, ⟨t, e1⟩, v2, r2, e2, ⟨t2, e3⟩, e4⟩ tk => by
  subst e1 e4 e3 e2 e
  refine call_range_2 ?_
  have l₂ := Wd.push_le X { cls := .type "range", data := .fields #[.int i t, .int j t2, .int 1 tk] }
  exact ⟨X.push { cls := .type "range", data := .fields #[.int i t, .int j t2, .int 1 tk] }, tk + 1, rfl, l₂, _, h, _, _, _, _, rfl, Wd.push_at X _⟩
end
end Mine

/- part PF -/
namespace Mine
open PySem PySem.W PySem.Calls PyProof.Rows

noncomputable def ins (x : Int) : List Int → List Int
  | [] => [x]
  | y :: r => if x ≤ y then x :: y :: r else y :: ins x r
noncomputable def isort : List Int → List Int
  | [] => []
  | x :: r => ins x (isort r)
theorem ins_perm (x : Int) : ∀ l, (ins x l).Perm (x :: l)
  | [] => .refl _
  | y :: r => by
    unfold ins
    split
    · exact .refl _
    · exact ((ins_perm x r).cons y).trans (.swap x y r)
theorem isort_perm : ∀ l, (isort l).Perm l
  | [] => .refl _
  | x :: r => (ins_perm x _).trans ((isort_perm r).cons x)
theorem ins_sorted (x : Int) : ∀ l, l.Pairwise (· ≤ ·) → (ins x l).Pairwise (· ≤ ·)
  | [], _ => by simp [ins]
  | y :: r, h => by
    unfold ins
    have h' := List.pairwise_cons.mp h
    split
    · rename_i hxy
      exact List.pairwise_cons.mpr ⟨fun z hz => by
        rcases List.mem_cons.mp hz with q | q
        · subst q; exact hxy
        · exact Int.le_trans hxy (h'.1 z q), h⟩
    · rename_i hxy
      exact List.pairwise_cons.mpr ⟨fun z hz => by
        rcases List.mem_cons.mp ((ins_perm x r).mem_iff.mp hz) with q | q
        · subst q; omega
        · exact h'.1 z q, ins_sorted x r h'.2⟩
theorem isort_sorted : ∀ l, (isort l).Pairwise (· ≤ ·)
  | [] => .nil
  | x :: r => ins_sorted x _ (isort_sorted r)
theorem perm_sorted_eq : ∀ {a b : List Int}, a.Perm b → a.Pairwise (· ≤ ·) → b.Pairwise (· ≤ ·) → a = b
  | [], b, h, _, _ => (List.nil_perm.mp h).symm
  | x :: a, [], h, _, _ => absurd h.length_eq (by simp)
  | x :: a, y :: b, h, ha, hb => by
    have ha' := List.pairwise_cons.mp ha
    have hb' := List.pairwise_cons.mp hb
    have e : x = y := by
      have h1 : x ≤ y := by
        rcases List.mem_cons.mp (h.mem_iff.mpr List.mem_cons_self : y ∈ x :: a) with q | q
        · omega
        · exact ha'.1 y q
      have h2 : y ≤ x := by
        rcases List.mem_cons.mp (h.mem_iff.mp List.mem_cons_self : x ∈ y :: b) with q | q
        · omega
        · exact hb'.1 x q
      omega
    subst e
    rw [perm_sorted_eq (List.perm_cons x |>.mp h) ha'.2 hb'.2]
theorem isort_of {a b : List Int} (h : a.Perm b) (s : a.Pairwise (· ≤ ·)) : a = isort b := perm_sorted_eq (h.trans (isort_perm b).symm) s (isort_sorted b)

section
variable {B : Bs} {A : Around} {env : Env} {ρ : Vs} {δ δ' δ1 δ2 : Ds} {X Y : Wd B} {P : MV → Prop} {i j : Int} {l l' : List MV} {m : MV} {Q : MV → Ds → Prop} {ns : List Int}

/-- what a collection holds, in order -/
noncomputable def Cl (B : Bs) (A : Around) (δ : Ds) (m : MV) (R : List MV → Prop) : Prop :=
  ∀ (X : Wd B) (v : Value), RepV B.C X.g m v → DictsAt δ X → Rn B A [] (collect v) X (fun vs Y => ∃ items, R items ∧ RepL B.C Y.g items vs)
theorem Cl.list (hl : l.length ≤ sizeLine) : Cl B A δ (.lst l) (· = l) := fun X v ⟨a, vs, n, e, hg, rl⟩ H tk => by
  subst e
  exact wpAny_collect_seq a (.inl rfl) (X.sub _ _ hg) rfl rfl (fun h' hk => ⟨X.more h' hk, tk, rfl, Wd.more_le X, l, rfl, rl⟩) (by simpa [rl.length] using hl)
theorem Cl.tup (hl : l.length ≤ sizeLine) : Cl B A δ (.tup l) (· = l) := fun X v ⟨a, vs, n, e, hg, rl⟩ H tk => by
  subst e
  exact wpAny_collect_seq a (.inr rfl) (X.sub _ _ hg) rfl rfl (fun h' hk => ⟨X.more h' hk, tk, rfl, Wd.more_le X, l, rfl, rl⟩) (by simpa [rl.length] using hl)
theorem Cl.dict {a : Addr} {kl : List (Int × MV)} (hA : A.handled = none) (hm : (a, DC.ints kl) ∈ δ) (hl : kl.length ≤ sizeLine) : Cl B A δ (.dict a) (· = kl.map fun p => .int p.1) := fun X v e H tk => by
  cases e
  obtain ⟨⟨kvs, hD, hr⟩, _, hsys⟩ := H.at_ _ hm
  obtain ⟨ep, hat⟩ := hD.dictAt
  exact kdu_collect (kdl_dict (knd := intKind PG B.w) (kvs := kvs) (ep := ep) hsys) hA hat (by rw [hr.length]; exact hl) fun h' tk' acc hk hacc => ⟨X.more h' hk, tk', rfl, Wd.more_le X, _, rfl, repL_keys hr hacc⟩

theorem sortedHeap_keep {h : Heap} {a : Addr} {vs : List Value} {out : Array Value} {n : Nat} (ho : h.get? a = some (seqObj "list" vs.toArray n)) :
    (∀ b o, b ≠ a → h.get? b = some o → (sortedHeap h a vs out).get? b = some o) ∧ ∃ c, (sortedHeap h a vs out).get? a = some (seqObj "list" out c) := by
  unfold sortedHeap
  have ha : a < h.objs.size := Heap.lt_size ho
  obtain ⟨e1, ho1⟩ : ∃ e1, (h.update a (Obj.mapSeq fun _ => #[])).get? a = some (seqObj "list" #[] e1) := ⟨_, get?_update_seq ho (fun _ => #[])⟩
  refine ⟨fun b o hb e => ?_, _, get?_update_seq (Heap.get?_push_of_some _ (Heap.get?_push_of_some _ ho1)) _⟩
  rw [Heap.get?_update_ne _ _ _ _ hb]
  exact Heap.get?_push_of_some _ (Heap.get?_push_of_some _ ((Heap.get?_update_ne _ _ _ _ hb).trans e))

theorem sorted_of (h : Cl B A.in1 δ m fun l => ∃ ns, l = ns.map .int ∧ ns.length < 64 ∧ Q (.lst ((isort ns).map .int)) δ) : Co B A (.builtin "sorted") [m] δ Q := fun X us ⟨v, r, e, e1, e2⟩ H tk => by
  subst e2 e
  refine Calls.call_function_entry kind_sorted plain_sorted entry_sorted (args_sorted1 _) ?_
  unfold Builtin.«sorted»
  refine wpAny_bind (m := checkCount "sorted" 1 1 _) (wpAny_pure ?_)
  refine wpAny_bind ((h X v e1 H).into fun vs Y tk₁ l₁ ⟨items, ⟨ns, e, h64, q⟩, rl⟩ => ?_)
  subst e
  have hI := intsAre_of rl
  have hlen : vs.length = ns.length := by rw [rl.length, List.length_map]
  refine wpAny_bind (wpAny_newList ?_ (by rw [hlen, sizeLine_eq]; omega))
  have hoL : (Y.h.push (seqObj "list" vs.toArray 0)).get? Y.h.objs.size = some (seqObj "list" vs.toArray 0) := Heap.get?_push_size _ rfl
  refine wpAny_bind (wpAny_holding (wpAny_call_entry slot_list_sort ⟨_, hoL, rfl⟩ entry_list_sort (list_sort_tree hoL hI (by omega) fun out ns' a1 a2 a3 => ⟨_, rfl, ?_⟩) (args_list_sort _)))
  refine wpAny_pure ⟨_, rfl, ?_⟩
  obtain ⟨k1, c, k2⟩ := sortedHeap_keep (out := out) hoL
  show ∃ X' tk', St B (sortedHeap (Y.h.push (seqObj "list" vs.toArray 0)) Y.h.objs.size vs out) tk₁ = _ ∧ _
  generalize sortedHeap (Y.h.push (seqObj "list" vs.toArray 0)) Y.h.objs.size vs out = h₃ at k1 k2 ⊢
  have hk : ∀ a o, Y.h.get? a = some o → h₃.get? a = some o := fun a o e =>
    k1 a o (Nat.ne_of_lt (Heap.lt_size e)) (Heap.get?_push_of_some _ e)
  have hD : (Y.more _ hk).h.get? Y.h.objs.size = some (lstO out.toList c) := by
    show h₃.get? _ = some { cls := .type "list", data := .seq out.toList.toArray c }
    rw [Array.toArray_toList]; exact k2
  have l₂ : Le [] Y (Y.more _ hk) := Wd.more_le Y
  have l₃ : Le [] Y ((Y.more _ hk).fix _ _ hD Y.gsize) := l₂.fix (no_at_size _)
  have e3 : ns' = isort ns := isort_of a2 a3
  subst e3
  have l₄ : Le [] X ((Y.more _ hk).fix _ _ hD Y.gsize) := l₁.trans l₃ fun _ h => nomatch h
  exact ⟨(Y.more _ hk).fix _ _ hD Y.gsize, tk₁, rfl, l₄.mono (fun _ h => nomatch h), _, δ, q, rfl, ⟨_, out.toList, c, rfl, Wd.fix_at _, repL_ints a1⟩, H.here l₄⟩
end
end Mine

/- part QA -/
namespace Mine
open PySem PySem.W PySem.Calls PyProof.Rows

noncomputable abbrev U5 : List Nat := [1, 2, 3, 4, 5]
noncomputable abbrev MaskOk (m : Nat) : Prop := m = 7 ∨ m = 15 ∨ m = 31
noncomputable def cn (p : Nat → Bool) : List Nat := U5.filter p
theorem cn_subs (p : Nat → Bool) : cn p ∈ subs := by
  unfold cn U5
  simp only [List.filter_cons, List.filter_nil]
  cases p 1 <;> cases p 2 <;> cases p 3 <;> cases p 4 <;> cases p 5 <;> decide
theorem cn_of : ∀ l ∈ subs, cn (fun x => decide (x ∈ l)) = l := by decide
theorem subs_U5 : ∀ l ∈ subs, ∀ x ∈ l, x ∈ U5 := by decide
theorem subs_len : ∀ l ∈ subs, l.length ≤ 5 := by decide
theorem subs_nodup : ∀ l ∈ subs, l.Nodup := by decide
theorem mem_cn {p : Nat → Bool} {x : Nat} : x ∈ cn p ↔ x ∈ U5 ∧ p x = true := by unfold cn; exact List.mem_filter
noncomputable def insN (x : Nat) (l : List Nat) : List Nat := cn fun y => decide (y = x) || decide (y ∈ l)
theorem insN_mem : ∀ l ∈ subs, ∀ x ∈ l, insN x l = l := by decide +kernel

theorem masks_of {m : Nat} (h : MaskOk m) : m ∈ [7, 15, 31] := by rcases h with h | h | h <;> simp [h]

theorem freeSlot_can {f mv : Nat} {led : Bool} : ∀ l ∈ subs, ∀ mask ∈ [7, 15, 31], ∀ x ∈ U5, x ∉ l → (setTb l mask f mv led).freeSlot (x : Int) = some (x, false) := of_decide_eq_true (by kernel_rfl)
theorem below_can : ∀ l ∈ subs, ∀ x ∈ U5, x ∉ l → insN x l = l.take (SetTable.below l.toArray x) ++ x :: l.drop (SetTable.below l.toArray x) := by decide +kernel
theorem insertAt_list {α : Type} (l : List α) (p : Nat) (x : α) : SetTable.insertAt l.toArray p x = (l.take p ++ x :: l.drop p).toArray := by
  apply Array.toList_inj.mp
  rw [SetTable.toList_insertAt]
theorem put_can {mask f mv : Nat} {led : Bool} {l : List Nat} {x : Nat} (hl : l ∈ subs) (hx : x ∈ U5) (hn : x ∉ l) :
    (setTb l mask f mv led).put x = (setTb (insN x l) mask f mv led, SetTable.below l.toArray x) := by
  unfold SetTable.put setTb
  dsimp only
  rw [insertAt_list, ← below_can l hl x hx hn]
  rfl
theorem setEs_ins {ts : Nat → Tok} {l : List Nat} {x : Nat} {u : Tok} (hl : l ∈ subs) (hx : x ∈ U5) (hn : x ∉ l) :
    SetTable.insertAt (setEs l ts) (SetTable.below l.toArray x) ((x : Int), Value.int (x : Int) u) = setEs (insN x l) (fun y => if y = x then u else ts y) := by
  unfold setEs
  rw [insertAt_list, below_can l hl x hx hn, List.map_append, List.map_cons]
  have hc : ∀ k : List Nat, (∀ y ∈ k, y ∈ l) → k.map (fun (i : Nat) => ((i : Int), Value.int (i : Int) (if i = x then u else ts i))) = k.map (fun (i : Nat) => ((i : Int), Value.int (i : Int) (ts i))) := fun k hk =>
    List.map_congr_left fun y hy => by
      have hne : y ≠ x := fun e => hn (by rw [← e]; exact hk y hy)
      rw [if_neg hne]
  rw [hc _ fun y hy => List.mem_of_mem_take hy, hc _ fun y hy => List.mem_of_mem_drop hy, List.map_take, List.map_drop]
  simp only [if_pos]
theorem fits_can {mask f mv : Nat} {led : Bool} {l : List Nat} (ts : Nat → Tok) (hl : l ∈ subs) (hm : MaskOk mask) : (setTb l mask f mv led).fits (setEs l ts).size = true := by
  have h := subs_len l hl
  unfold SetTable.fits SetTable.fill setTb setEs
  simp
  rcases hm with h' | h' | h' <;> omega
theorem fits_canN {mask f mv : Nat} {led : Bool} {l : List Nat} (hl : l ∈ subs) (hm : MaskOk mask) : (setTb l mask f mv led).fits l.length = true := by
  have := fits_can (f := f) (mv := mv) (led := led) (fun _ => 0) hl hm
  simpa [setEs] using this
theorem layNew_can {mask f mv : Nat} {led : Bool} {l : List Nat} {x : Nat} {u : Tok} {ts : Nat → Tok} (hl : l ∈ subs) (hm : MaskOk mask) (hx : x ∈ U5) (hn : x ∉ l) :
    layNew (setTb l mask f mv led) (setEs l ts) (x : Int) (.int x u) = (setEs (insN x l) (fun y => if y = x then u else ts y), setTb (insN x l) mask f mv led, false, false) := by
  unfold layNew
  rw [freeSlot_can l hl mask (masks_of hm) x hx hn]
  dsimp only
  rw [put_can hl hx hn]
  dsimp only
  rw [setEs_ins hl hx hn]
  have hf : (setTb (insN x l) mask f mv led).fits (setEs (insN x l) fun y => if y = x then u else ts y).size = true := fits_can (fun y => if y = x then u else ts y) (cn_subs _ : insN x l ∈ subs) hm
  unfold SetTable.orStandIn
  rw [if_pos hf, hf]; rfl

noncomputable def liveOf (mask : Nat) (hs : Array Int) : Option (List (Nat × Nat)) := (SetTable.layClean mask hs).map fun owner => (List.range (mask + 1)).filterMap fun j => (owner.getD j none).map (j, ·)
theorem live_can : ∀ l ∈ subs, ∀ mask ∈ [7, 15, 31], liveOf mask (l.map fun (i : Nat) => (i : Int)).toArray = some (l.zip (List.range l.length)) := of_decide_eq_true (by kernel_rfl)
theorem laid_can {mask f mv : Nat} {led plain : Bool} {l : List Nat} (hl : l ∈ subs) (hm : MaskOk mask) :
    SetTable.laid mask f mv led plain (l.map fun (i : Nat) => (i : Int)).toArray = some ({ setTb l mask f mv led with plain := plain }, (List.range l.length).toArray) := by
  have h := live_can l hl mask (masks_of hm)
  unfold liveOf at h
  unfold SetTable.laid
  cases e : SetTable.layClean mask (l.map fun (i : Nat) => (i : Int)).toArray with
  | none => rw [e] at h; cases h
  | some owner =>
    rw [e] at h
    simp only [Option.map_some, Option.some.injEq] at h
    show some _ = _
    rw [h]
    congr 2
    · unfold setTb
      congr 1
      rw [List.map_fst_zip (by simp)]
    · rw [List.map_snd_zip (by simp)]
theorem sizes_ok : ∀ n ∈ List.range 25, SetTable.sizeAbove n - 1 = 7 ∨ SetTable.sizeAbove n - 1 = 15 ∨ SetTable.sizeAbove n - 1 = 31 := by decide +kernel
theorem sizes_small : ∀ n ∈ List.range 25, SetTable.sizeAbove n ≤ 32 := by decide +kernel
theorem es_hashes (l : List Nat) (ts : Nat → Tok) : (setEs l ts).map (·.1) = (l.map fun (i : Nat) => (i : Int)).toArray := by unfold setEs; simp
theorem relaid_can {mask f mv : Nat} {led : Bool} {l : List Nat} {ts : Nat → Tok} {n : Nat} (hl : l ∈ subs) (hn : n < 25) :
    (setTb l mask f mv led).relaid ((setEs l ts).map (·.1)) n = some (setTb l (SetTable.sizeAbove n - 1) f ((setTb l mask f mv led).movedTo (SetTable.sizeAbove n - 1)) led, (List.range l.length).toArray) := by
  unfold SetTable.relaid
  rw [es_hashes, laid_can hl (sizes_ok n (List.mem_range.mpr hn))]
  rfl
theorem order_can (l : List Nat) (ts : Nat → Tok) : (List.range l.length).toArray.filterMap ((setEs l ts)[·]?) = setEs l ts := by
  have h := filterMap_getElem?_range (setEs l ts)
  have e : (setEs l ts).size = l.length := by unfold setEs; simp
  rw [e] at h
  apply Array.toList_inj.mp
  rw [← h]; simp
theorem relayAll_can {mask f mv : Nat} {led : Bool} {l : List Nat} {ts : Nat → Tok} {n : Nat} (hl : l ∈ subs) (hn : n < 25) :
    relayAll (setTb l mask f mv led) (setEs l ts) n = (setEs l ts, setTb l (SetTable.sizeAbove n - 1) f ((setTb l mask f mv led).movedTo (SetTable.sizeAbove n - 1)) led, false) := by
  unfold relayAll
  rw [relaid_can hl hn]
  dsimp only
  rw [order_can]
  have e : (setEs l ts).size = l.length := by unfold setEs; simp
  have hc : coversAll (List.range l.length).toArray (setEs l ts).size = true := by
    unfold coversAll
    rw [e]
    exact List.isPerm_iff.mpr (List.Perm.refl _)
  rw [hc, fits_can ts hl (sizes_ok n (List.mem_range.mpr hn))]
  rfl
end Mine

/- part QB -/
namespace Mine
open PySem PySem.W PySem.Calls PyProof.Rows

theorem hash_U5 : ∀ x ∈ U5, hashInt (x : Int) = (x : Int) := by decide
theorem erase_perm {α : Type} : ∀ (l : List α) (i : Nat) (h : i < l.length), (l[i] :: l.eraseIdx i).Perm l
  | [], _, h => absurd h (Nat.not_lt_zero _)
  | x :: r, 0, _ => .refl _
  | x :: r, i + 1, h => by
    rw [List.eraseIdx_cons_succ, List.getElem_cons_succ]
    exact (List.Perm.swap _ _ _).trans ((erase_perm r i (by simpa using h)).cons x)
theorem pick_perm {α : Type} (next : Nat → Nat) : ∀ (fuel k : Nat) (left : List α) (out : Array α), left.length ≤ fuel → (pickOrder.go next fuel k left out).toList.Perm (out.toList ++ left)
  | 0, k, left, out, h => by
    have : left = [] := List.length_eq_zero_iff.mp (Nat.le_zero.mp h)
    subst this; simp [pickOrder.go]
  | fuel + 1, k, left, out, h => by
    unfold pickOrder.go
    cases e : left[next k % left.length]? with
    | none =>
      dsimp only
      have h1 := List.getElem?_eq_none_iff.mp e
      have : left = [] := by
        cases left with
        | nil => rfl
        | cons x r => exact absurd (Nat.mod_lt (next k) (Nat.succ_pos r.length)) (Nat.not_lt.mpr h1)
      subst this; simp
    | some x =>
      dsimp only
      have hlt := (List.getElem?_eq_some_iff.mp e).1
      have hx := (List.getElem?_eq_some_iff.mp e).2
      refine (pick_perm next fuel (k + 1) _ _ (by rw [List.length_eraseIdx_of_lt hlt]; omega)).trans ?_
      rw [Array.toList_push, List.append_assoc]
      refine List.Perm.append_left _ ?_
      rw [List.singleton_append, ← hx]
      exact erase_perm left _ hlt
theorem pickOrder_perm {α : Type} (next : Nat → Nat) (xs : Array α) : (pickOrder next xs).toList.Perm xs.toList := by
  have := pick_perm next xs.size 0 xs.toList #[] (by simp)
  simpa [pickOrder] using this

/-- at a lies the set l -/
noncomputable def CanAt (B : Bs) (h : Heap) (a : Addr) (l : List Nat) : Prop :=
  ∃ ts ep mask f mv led, h.get? a = some (setO l ts ep mask f mv led) ∧ MaskOk mask ∧ (B.C.txt = false → led = true) ∧ l ∈ subs

section
variable {B : Bs} {A : Around} {E : Value → Shared → Prop} {s : Shared} {a b : Addr} {l l' : List Nat}
theorem CanAt.sub {h : Heap} (H : CanAt B h a l) : l ∈ subs := let ⟨_, _, _, _, _, _, _, _, _, h⟩ := H; h
theorem CanAt.keep {h h' : Heap} (H : CanAt B h a l) (k : ∀ o, h.get? a = some o → h'.get? a = some o) : CanAt B h' a l := let ⟨ts, ep, mask, f, mv, led, h1, r⟩ := H; ⟨ts, ep, mask, f, mv, led, k _ h1, r⟩
theorem elems_can {ts : Nat → Tok} (hl : l ∈ subs) : ElemsOf (intKind PG B.w) (setEs l ts).toList := fun e he => by
  unfold setEs at he
  obtain ⟨i, hi, rfl⟩ := List.mem_map.mp (by simpa using he)
  exact ⟨⟨(i : Int), intKind_is _ _ _ _, (hash_U5 i (subs_U5 l hl i hi)).symm⟩, rfl⟩
theorem size_es (ts : Nat → Tok) : (setEs l ts).size = l.length := by unfold setEs; simp
theorem small_can (hl : l ∈ subs) (ts : Nat → Tok) : (setEs l ts).size < scanBound := by rw [size_es]; have := subs_len l hl; unfold scanBound; omega
theorem CanAt.setOf {h : Heap} (H : CanAt B h a l) : h.SetOf (intKind PG B.w) a (fun k => l.any fun (x : Nat) => decide ((x : Int) = k)) l.length := by
  obtain ⟨ts, ep, mask, f, mv, led, h1, hm, hd, hl⟩ := H
  refine ⟨_, setEs l ts, ep, _, h1, ⟨rfl, rfl, rfl⟩, rfl, elems_can hl, fun k => ?_, small_can hl ts, fits_can ts hl hm, size_es ts⟩
  rw [List.any_eq_true]
  constructor
  · rintro ⟨x, hx, e⟩
    have e' := of_decide_eq_true e
    exact ⟨((x : Int), .int x (ts x)), by unfold setEs; simpa using ⟨x, hx, rfl, rfl⟩, by rw [← e']; exact intKind_is _ _ _ _⟩
  · rintro ⟨e, he, hk⟩
    unfold setEs at he
    obtain ⟨i, hi, rfl⟩ := List.mem_map.mp (by simpa using he)
    refine ⟨i, hi, decide_eq_true ?_⟩
    exact (intKind PG B.w).inj _ _ _ (intKind_is _ _ _ _) hk

theorem find_idx {x : Nat} {ts : Nat → Tok} (hl : l ∈ subs) : ((setEs l ts).toList.findIdx? fun e => (intKind PG B.w).is (x : Int) e.2).isSome = decide (x ∈ l) := by
  cases e : (setEs l ts).toList.findIdx? fun e => (intKind PG B.w).is (x : Int) e.2 with
  | none =>
    have h := List.findIdx?_eq_none_iff.mp e
    rw [Option.isSome_none, eq_comm, decide_eq_false_iff_not]
    intro hx
    have := h ((x : Int), .int x (ts x)) (by unfold setEs; simpa using ⟨x, hx, rfl, rfl⟩)
    rw [show (intKind PG B.w).is (x : Int) (.int x (ts x)) = true from intKind_is _ _ _ _] at this
    cases this
  | some j =>
    obtain ⟨hj, hp, _⟩ := List.findIdx?_eq_some_iff_getElem.mp e
    rw [Option.isSome_some, eq_comm, decide_eq_true_iff]
    have hm := List.getElem_mem hj
    unfold setEs at hm
    obtain ⟨i, hi, he⟩ := List.mem_map.mp (by simpa using hm)
    have h2 : (intKind PG B.w).is (x : Int) (Value.int i (ts i)) = true := by
      have h3 : (setEs l ts).toList[j].2 = Value.int i (ts i) := by
        have : (setEs l ts).toList[j] = ((i : Int), Value.int i (ts i)) := by rw [he]; unfold setEs; rfl
        rw [this]
      rw [← h3]; exact hp
    have := (intKind PG B.w).inj _ _ _ (intKind_is (prog := PG) (w := B.w) _ _) h2
    have : i = x := by omega
    subst this; exact hi
theorem setFind_can {x : Nat} {u : Tok} {Q : Option Nat → Shared → Prop} (H : CanAt B s.heap a l) (hx : x ∈ U5) (h : ∀ r : Option Nat, r.isSome = decide (x ∈ l) → Q r s) : wpAny B.M A (setFind a (.int x u) (x : Int)) Q E s := by
  have := wpAny_setFind_of (knd := intKind PG B.w) (k := (x : Int)) (x := .int x u) (A := A) (E := E) (Q := Q) (intKind_is _ _ _ _) rfl H.setOf fun r hr => h r (by
    rw [hr, Bool.eq_iff_iff, List.any_eq_true, decide_eq_true_iff]
    exact ⟨fun ⟨y, hy, e⟩ => by have := of_decide_eq_true e; have : y = x := by omega
                                subst this; exact hy, fun hy => ⟨x, hy, decide_eq_true rfl⟩⟩)
  rw [show (intKind PG B.w).hash (x : Int) = (x : Int) from hash_U5 x hx] at this
  exact this
theorem CanAt.update {h : Heap} {ts ts' : Nat → Tok} {ep mask f mv mask' f' mv' : Nat} {led led' : Bool} (ho : h.get? a = some (setO l ts ep mask f mv led)) :
    (h.update a (Obj.putSet (setEs l' ts') (setTb l' mask' f' mv' led'))).get? a = some (setO l' ts' (ep + 1) mask' f' mv' led') := by
  have := Heap.get?_update_self (Obj.putSet (setEs l' ts') (setTb l' mask' f' mv' led')) ho (by rw [putSet_of _ _ rfl]; rfl)
  rw [putSet_of _ _ rfl] at this; exact this
theorem size_ok (hl : l ∈ subs) (ts : Nat → Tok) : (setEs l ts).size ≤ sizeLine := fits_of_scanBound (small_can hl ts)

theorem setAdd_can {x : Nat} {u : Tok} {Q : Bool → Shared → Prop} (H : CanAt B s.heap a l) (hx : x ∈ U5) (h : ∀ h' r, Heap.SameBut a s.heap h' → CanAt B h' a (insN x l) → Q r { s with heap := h' }) : wpAny B.M A (setAddHashed a (.int x u) (x : Int)) Q E s := by
  obtain ⟨ts, ep, mask, f, mv, led, ho, hm, hd, hl⟩ := H
  unfold setAddHashed setAddHashedIn
  refine wpAny_holding (wpAny_bind (wpAny_setState_of ho rfl (fits_can ts hl hm) ?_))
  dsimp only
  rw [byScan_of (knd := intKind PG B.w) rfl (small_can hl ts) (elems_can hl)]
  simp only [↓reduceIte]
  unfold setAddByScan
  refine wpAny_bind ?_
  refine wpAny_bind (wpAny_rule ?_)
  have hsc := wpAny_setScan_of (knd := intKind PG B.w) (k := (x : Int)) (x := .int x u) (adding := true) (A := A) (E := E) (s := s) (a := a) (Q := fun r s' => s' = s ∧ r = (match (setEs l ts).toList.findIdx? (fun e => (intKind PG B.w).is (x : Int) e.2) with | some j => ScanMet.found (0 + j) | none => .absent))
    (intKind_is _ _ _ _) ho rfl (fits_can ts hl hm) (elems_can hl) ⟨rfl, rfl⟩
  rw [show (intKind PG B.w).hash (x : Int) = (x : Int) from hash_U5 x hx] at hsc
  refine wpAny_bind (wpAny_mono hsc (fun r s' hr => ?_) fun _ _ x => x)
  obtain ⟨rfl, rfl⟩ := hr
  have hfi := find_idx (B := B) (x := x) (ts := ts) hl
  cases hr : (setEs l ts).toList.findIdx? fun e => (intKind PG B.w).is (x : Int) e.2 with
  | some j =>
    rw [hr] at hfi
    have hxl : x ∈ l := of_decide_eq_true hfi.symm
    dsimp only
    refine wpAny_pure (wpAny_pure ?_)
    have := h s'.heap false (Heap.SameBut.refl a s'.heap) ⟨ts, ep, mask, f, mv, led, by rw [insN_mem l hl x hxl]; exact ho, hm, hd, by rw [insN_mem l hl x hxl]; exact hl⟩
    exact this
  | none =>
    rw [hr] at hfi
    have hxl : x ∉ l := of_decide_eq_false hfi.symm
    dsimp only
    rw [layNew_can hl hm hx hxl]
    dsimp only
    have hl' : insN x l ∈ subs := cn_subs _
    refine wpAny_bind (wpAny_pure ?_)
    rw [show (setTb (insN x l) mask f mv led).plain = true from rfl]
    simp only [↓reduceIte]
    refine wpAny_bind ?_
    rw [hashByValue_scannable 8 (x := .int x u) rfl]
    refine wpAny_pure ?_
    simp only [plainKind, ↓reduceIte]
    refine wpAny_bind (wpAny_storeSet_of ho rfl ?_ (size_ok hl' _))
    have ho1 := CanAt.update (l' := insN x l) (ts' := fun y => if y = x then u else ts y) (mask' := mask) (f' := f) (mv' := mv) (led' := led) ho
    have hs1 := Heap.SameBut.update s'.heap a (Obj.putSet (setEs (insN x l) fun y => if y = x then u else ts y) (setTb (insN x l) mask f mv led))
    refine wpAny_ite_split (fun _ => ?_) (fun _ => ?_)
    · have hn : SetTable.grown (setEs (insN x l) fun y => if y = x then u else ts y).size < 25 := by
        rw [size_es]
        have := subs_len _ hl'
        unfold SetTable.grown
        split <;> omega
      rw [relayAll_can hl' hn]
      dsimp only
      refine wpAny_bind (wpAny_pure ?_)
      refine wpAny_bind (wpAny_storeSet_of ho1 rfl ?_ (size_ok hl' _))
      refine wpAny_pure (wpAny_pure ?_)
      have ho2 := CanAt.update (l' := insN x l) (ts' := fun y => if y = x then u else ts y) (mask' := SetTable.sizeAbove (SetTable.grown (setEs (insN x l) fun y => if y = x then u else ts y).size) - 1) (f' := f)
        (mv' := (setTb (insN x l) mask f mv led).movedTo (SetTable.sizeAbove (SetTable.grown (setEs (insN x l) fun y => if y = x then u else ts y).size) - 1)) (led' := led) ho1
      exact h _ true (hs1.trans (Heap.SameBut.update _ a _)) ⟨_, _, _, _, _, _, ho2, sizes_ok _ (List.mem_range.mpr hn), hd, hl'⟩
    · exact wpAny_pure (wpAny_pure (h _ true hs1 ⟨_, _, _, _, _, _, ho1, hm, hd, hl'⟩))
end
end Mine

/- part QC -/
namespace Mine
open PySem PySem.W PySem.Calls PyProof.Rows

theorem forArr {α : Type} {M : Model} {A : Around} {E : Value → Shared → Prop} {body : α → PUnit → Sem (ForInStep PUnit)} {Q : PUnit → Shared → Prop} (I : Nat → Shared → Prop) : ∀ (vs : List α) (i : Nat) (s : Shared), I i s →
    (∀ j x s', vs[j]? = some x → I (i + j) s' → wpAny M A (body x ⟨⟩) (fun r s'' => r = .yield ⟨⟩ ∧ I (i + j + 1) s'') E s') →
    (∀ s', I (i + vs.length) s' → Q ⟨⟩ s') → wpAny M A (forIn vs PUnit.unit body) Q E s
  | [], i, s, hI, _, done => by
    rw [List.forIn_nil]
    exact wpAny_pure (done s (by simpa using hI))
  | x :: vs, i, s, hI, step, done => by
    rw [List.forIn_cons]
    refine wpAny_bind (wpAny_mono (step 0 x s (by simp) hI) (fun r s' h' => ?_) fun _ _ e => e)
    obtain ⟨rfl, hI'⟩ := h'
    show wpAny M A (forIn vs PUnit.unit body) Q E s'
    refine forArr I vs (i + 1) s' hI' (fun j y s'' hy hJ => ?_) fun s'' hd => done s'' ?_
    · have e : i + (j + 1) = i + 1 + j := by omega
      have h1 := step (j + 1) y s'' (by simpa using hy) (by rw [e]; exact hJ)
      rw [e] at h1
      exact h1
    · have e : i + (x :: vs).length = i + 1 + vs.length := by rw [List.length_cons]; omega
      rw [e]
      exact hd

theorem subs_ext {l l' : List Nat} (h : l ∈ subs) (h' : l' ∈ subs) (e : ∀ x ∈ U5, (x ∈ l ↔ x ∈ l')) : l = l' := by
  rw [← cn_of l h, ← cn_of l' h']
  unfold cn
  exact List.filter_congr fun x hx => by simp [e x hx]
noncomputable def uni (l l' : List Nat) : List Nat := cn fun x => decide (x ∈ l) || decide (x ∈ l')
theorem mem_insN {l : List Nat} (hl : l ∈ subs) {x y : Nat} (hx : x ∈ U5) : y ∈ insN x l ↔ y = x ∨ y ∈ l := by
  unfold insN
  rw [mem_cn, Bool.or_eq_true, decide_eq_true_iff, decide_eq_true_iff]
  exact ⟨fun h => h.2, fun h => ⟨h.elim (fun e => e ▸ hx) (subs_U5 l hl y), h⟩⟩
theorem mem_uni {l l' : List Nat} (hl : l ∈ subs) (hl' : l' ∈ subs) {y : Nat} : y ∈ uni l l' ↔ y ∈ l ∨ y ∈ l' := by
  unfold uni
  rw [mem_cn, Bool.or_eq_true, decide_eq_true_iff, decide_eq_true_iff]
  exact ⟨fun h => h.2, fun h => ⟨h.elim (subs_U5 l hl y) (subs_U5 l' hl' y), h⟩⟩

/-- an entry -/
noncomputable abbrev ent (ts : Nat → Tok) (i : Nat) : Int × Value := ((i : Int), Value.int (i : Int) (ts i))
theorem perm_ent {ts : Nat → Tok} {l : List Nat} {es : List (Int × Value)} (h : es.Perm (l.map (ent ts))) : ∃ p : List Nat, p.Perm l ∧ es = p.map (ent ts) := by
  refine ⟨es.map fun e => e.1.toNat, ?_, ?_⟩
  · have := h.map fun e => e.1.toNat
    rw [List.map_map] at this
    have e : l.map ((fun e : Int × Value => e.1.toNat) ∘ ent ts) = l := by
      rw [show ((fun e : Int × Value => e.1.toNat) ∘ ent ts) = id from funext fun i => by simp]; simp
    rw [e] at this; exact this
  · rw [List.map_map]
    have : ∀ e ∈ es, (ent ts ∘ fun e : Int × Value => e.1.toNat) e = e := fun e he => by
      obtain ⟨i, _, rfl⟩ := List.mem_map.mp (h.mem_iff.mp he)
      simp
    rw [List.map_congr_left this]; simp

section
variable {B : Bs} {A : Around} {E : Value → Shared → Prop} {s : Shared} {a b o : Addr} {l l' : List Nat}
theorem byText_is {Q : Bool → Shared → Prop} (h : Q B.C.txt s) : wpAny B.M A setsByText Q E s := by
  unfold setsByText
  refine wpAny_bind (wpAny_askSetting (wpAny_pure ?_))
  rw [show (Setting.params ⟨B.M.prog, B.M.w.params⟩) = B.w.params from rfl, B.txt]
  exact h
theorem setWalk_can {Q : Array (Int × Value) → Shared → Prop} (H : CanAt B s.heap a l) (h : ∀ (p : List Nat) ts, p.Perm l → Q (p.map (ent ts)).toArray s) : wpAny B.M A (setWalk a) Q E s := by
  obtain ⟨ts, ep, mask, f, mv, led, ho, hm, hd, hl⟩ := H
  unfold setWalk
  refine wpAny_bind (wpAny_setState_of ho rfl (fits_can ts hl hm) ?_)
  dsimp only
  refine wpAny_bind (byText_is ?_)
  refine wpAny_ite_split (fun ht => ?_) (fun ht => ?_)
  · refine wpAny_bind (wpAny_askSetting (wpAny_pure ?_))
    obtain ⟨p, hp, e⟩ := perm_ent (ts := ts) (l := l) (pickOrder_perm ((Setting.params ⟨B.M.prog, B.M.w.params⟩).setOrder a ep) (setEs l ts) |>.trans (by unfold setEs; simp))
    have := h p ts hp
    rw [← e, Array.toArray_toList] at this
    exact this
  · refine wpAny_ite_split (fun hab => ?_) (fun _ => ?_)
    · have h2 : (!(setTb l mask f mv led).plain && decide ((setEs l ts).size > 1)) = true := hab
      simp [setTb] at h2
    · refine wpAny_bind ?_
      have hled : led = true := hd (by simpa using ht)
      show wpAny _ _ (if (!(setTb l mask f mv led).led && decide ((setEs l ts).size > 1)) = true then unsupported _ else pure PUnit.unit) _ _ _
      refine wpAny_ite_split (fun hab => ?_) (fun _ => wpAny_pure (wpAny_pure ?_))
      · simp [setTb, hled] at hab
      · exact h l ts (.refl _)
theorem setWalkUnseen_can {Q : Array (Int × Value) → Shared → Prop} {others : List Addr} {filled : Option Addr} (H : CanAt B s.heap a l) (h : ∀ (p : List Nat) ts, p.Perm l → Q (p.map (ent ts)).toArray s) :
    wpAny B.M A (setWalkUnseen a others filled) Q E s := by
  obtain ⟨ts, ep, mask, f, mv, led, ho, hm, hd, hl⟩ := id H
  unfold setWalkUnseen
  refine wpAny_bind (wpAny_setState_of ho rfl (fits_can ts hl hm) ?_)
  dsimp only
  refine wpAny_bind (byText_is ?_)
  refine wpAny_ite_split (fun _ => setWalk_can H h) (fun hab => ?_)
  exfalso
  apply hab
  cases ht : B.C.txt with
  | true => simp
  | false => simp [setTb, hd ht]
theorem setRelay_can {n : Nat} {Q : Unit → Shared → Prop} (H : CanAt B s.heap a l) (hn : n < 25) (h : ∀ h', Heap.SameBut a s.heap h' → CanAt B h' a l → Q () { s with heap := h' }) : wpAny B.M A (setRelay a n) Q E s := by
  obtain ⟨ts, ep, mask, f, mv, led, ho, hm, hd, hl⟩ := H
  unfold setRelay
  refine wpAny_bind (wpAny_setState_of ho rfl (fits_can ts hl hm) ?_)
  dsimp only
  refine wpAny_ite_split (fun hab => ?_) (fun _ => ?_)
  · have := sizes_small n (List.mem_range.mpr hn)
    rw [sizeLine_eq] at hab
    omega
  · have hmk := sizes_ok n (List.mem_range.mpr hn)
    rw [relaid_can hl hn]
    refine wpAny_bind ?_
    show wpAny _ _ (if (((List.range l.length).toArray.filterMap ((setEs l ts)[·]?)).size != (setEs l ts).size) = true then unsupported _ else pure ((List.range l.length).toArray.filterMap ((setEs l ts)[·]?), _)) _ _ _
    rw [order_can]
    refine wpAny_ite_split (fun hab => by simp at hab) (fun _ => wpAny_pure ?_)
    refine wpAny_storeSet_of ho rfl ?_ (size_ok hl _)
    exact h _ (Heap.SameBut.update _ a _) ⟨_, _, _, _, _, _, CanAt.update ho, hmk, hd, hl⟩
theorem CanAt.len {h : Heap} (H : CanAt B h a l) : l.length ≤ 5 := subs_len l H.sub
theorem setRoomFor_can {n : Nat} {Q : Unit → Shared → Prop} (H : CanAt B s.heap a l) (hn : n ≤ 5) (h : ∀ h', Heap.SameBut a s.heap h' → CanAt B h' a l → Q () { s with heap := h' }) : wpAny B.M A (setRoomFor a n) Q E s := by
  obtain ⟨ts, ep, mask, f, mv, led, ho, hm, hd, hl⟩ := id H
  unfold setRoomFor
  refine wpAny_bind (wpAny_setState_of ho rfl (fits_can ts hl hm) ?_)
  dsimp only
  cases hr : (setTb l mask f mv led).roomFor n with
  | none => exact wpAny_pure (h _ (Heap.SameBut.refl _ _) H)
  | some wanted =>
    dsimp only
    refine setRelay_can H ?_ h
    unfold SetTable.roomFor at hr
    split at hr
    · cases hr
      have := H.len
      simp [setTb]
      omega
    · cases hr
/-- s takes in all of o's -/
theorem setMerge_can {each : Sem Unit} {Q : Unit → Shared → Prop} (H : CanAt B s.heap a l) (H' : CanAt B s.heap o l') (hne : a ≠ o)
    (heach : ∀ s' Q, s'.heap.get? o = s.heap.get? o → Q () s' → wpAny B.M A each Q E s')
    (h : ∀ h', Heap.SameBut a s.heap h' → CanAt B h' a (uni l l') → Q () { s with heap := h' }) : wpAny B.M A (setMerge a o each) Q E s := by
  obtain ⟨ts', ep', mask', f', mv', led', ho', hm', hd', hl'⟩ := id H'
  unfold setMerge
  refine wpAny_ite_split (fun hab => absurd (eq_of_beq hab) hne) (fun _ => ?_)
  refine wpAny_bind (wpAny_setState_of ho' rfl (fits_can ts' hl' hm') ?_)
  dsimp only
  refine wpAny_ite_split (fun hab => ?_) (fun hab => ?_)
  · have e : l' = [] := by simpa [setEs] using hab
    subst e
    have : uni l [] = l := by
      refine subs_ext (cn_subs _) H.sub fun x hx => ?_
      rw [mem_uni H.sub hl']; simp
    exact wpAny_pure (h _ (Heap.SameBut.refl _ _) (this.symm ▸ H))
  · refine wpAny_bind (setRoomFor_can H (by rw [size_es]; exact H'.len) fun h₁ hs₁ H₁ => ?_)
    obtain ⟨ts, ep, mask, f, mv, led, ho, hm, hd, hl⟩ := id H₁
    refine wpAny_bind (wpAny_setState_of ho rfl (fits_can ts hl hm) ?_)
    dsimp only
    have hfill : (setTb l mask f mv led).fill = l.length := by simp [SetTable.fill, setTb]
    have empty : ∀ r, (setTb l mask f mv led).road (setTb l' mask' f' mv' led') = r → r ≠ .oneByOne → l = [] := fun r hr hn => by
      unfold SetTable.road at hr
      rw [hfill] at hr
      by_cases h0 : l.length = 0
      · exact List.length_eq_zero_iff.mp h0
      · rw [if_pos (by simpa using h0)] at hr
        exact absurd hr.symm hn
    have en : ∀ (e : l = []), uni l l' = l' := fun e => by
      subst e
      refine subs_ext (cn_subs _) hl' fun x hx => ?_
      rw [mem_uni H.sub hl']; simp
    have hd2 : B.C.txt = false → (led && led') = true := fun ht => by rw [hd ht, hd' ht]; rfl
    cases hr : (setTb l mask f mv led).road (setTb l' mask' f' mv' led') with
    | slotForSlot =>
      have e := empty _ hr (by simp)
      dsimp only
      refine wpAny_storeSet_of ho rfl ?_ (size_ok hl' _)
      have ho2 := CanAt.update (l' := l') (ts' := ts') (mask' := mask') (f' := f) (mv' := mv) (led' := led && led') ho
      exact h _ (hs₁.trans (Heap.SameBut.update _ a _)) (by rw [en e]; exact ⟨_, _, _, _, _, _, ho2, hm', hd2, hl'⟩)
    | clean =>
      have e := empty _ hr (by simp)
      dsimp only
      rw [es_hashes, show SetTable.laid (setTb l mask f mv led).mask (setTb l mask f mv led).finger (setTb l mask f mv led).moves ((setTb l mask f mv led).led && (setTb l' mask' f' mv' led').led) ((setTb l mask f mv led).plain && (setTb l' mask' f' mv' led').plain) (l'.map fun (i : Nat) => (i : Int)).toArray = _ from laid_can hl' hm]
      refine wpAny_bind ?_
      show wpAny _ _ (if (((List.range l'.length).toArray.filterMap ((setEs l' ts')[·]?)).size != (setEs l' ts').size) = true then unsupported _ else pure ((List.range l'.length).toArray.filterMap ((setEs l' ts')[·]?), _)) _ _ _
      rw [order_can]
      refine wpAny_ite_split (fun hab => by simp at hab) (fun _ => wpAny_pure ?_)
      refine wpAny_storeSet_of ho rfl ?_ (size_ok hl' _)
      have ho2 := CanAt.update (l' := l') (ts' := ts') (mask' := mask) (f' := f) (mv' := mv) (led' := led && led') ho
      exact h _ (hs₁.trans (Heap.SameBut.update _ a _)) (by rw [en e]; exact ⟨_, _, _, _, _, _, ho2, hm, hd2, hl'⟩)
    | oneByOne =>
      dsimp only
      have ho1 : h₁.get? o = _ := (hs₁.2 o (Ne.symm hne)).trans ho'
      have H1' : CanAt B h₁ o l' := ⟨ts', ep', mask', f', mv', led', ho1, hm', hd', hl'⟩
      refine wpAny_bind (setWalkUnseen_can H1' fun p tsp hp => ?_)
      rw [← Array.forIn_toList]
      have hpU : ∀ x ∈ p, x ∈ U5 := fun x hx => subs_U5 l' hl' x (hp.mem_iff.mp hx)
      refine wpAny_bind (forArr (fun i s' => ∃ h₂ lc, s' = { s with heap := h₂ } ∧ Heap.SameBut a h₁ h₂ ∧ CanAt B h₂ a lc ∧ ∀ x ∈ U5, (x ∈ lc ↔ x ∈ l ∨ x ∈ p.take i)) (p.map (ent tsp)) 0 _
        ⟨h₁, l, rfl, Heap.SameBut.refl _ _, H₁, fun x _ => by simp⟩ ?_ ?_)
      · rintro j x s' hx ⟨h₂, lc, rfl, hs₂, H₂, hlc⟩
        rw [List.getElem?_map] at hx
        cases hpj : p[j]? with
        | none => rw [hpj] at hx; cases hx
        | some y =>
          rw [hpj] at hx
          cases hx
          have hy := hpU y (List.mem_of_getElem? hpj)
          dsimp only
          refine wpAny_bind (wpAny_holding (setAdd_can H₂ hy fun h₃ r hs₃ H₃ => ?_))
          have ho3 : h₃.get? o = s.heap.get? o := (hs₃.2 o (Ne.symm hne)).trans ((hs₂.2 o (Ne.symm hne)).trans (hs₁.2 o (Ne.symm hne)))
          refine wpAny_bind (heach _ _ ho3 ?_)
          refine wpAny_bind (wpAny_setState_of (ho3.trans ho') rfl (fits_can ts' hl' hm') ?_)
          refine wpAny_ite_split (fun hab => by simp at hab) (fun _ => wpAny_pure ⟨rfl, h₃, insN y lc, rfl, hs₂.trans hs₃, H₃, fun x hx => ?_⟩)
          rw [mem_insN H₂.sub hy, hlc x hx, Nat.zero_add, List.take_add_one, hpj]
          simp
          exact ⟨fun h => h.elim (fun e => .inr (.inr e)) (fun h => h.elim .inl fun h => .inr (.inl h)), fun h => h.elim (fun h => .inr (.inl h)) fun h => h.elim (fun h => .inr (.inr h)) .inl⟩
      · rintro s' ⟨h₂, lc, rfl, hs₂, H₂, hlc⟩
        have e : lc = uni l l' := subs_ext H₂.sub (cn_subs _) fun x hx => by
          rw [hlc x hx, mem_uni hl hl', List.take_of_length_le (by simp), hp.mem_iff]
        subst e
        exact wpAny_pure (h _ (hs₁.trans hs₂) H₂)
end
end Mine

/- part QE0 -/
namespace Mine
open PySem PySem.W PySem.Calls PyProof.Rows
theorem entry_set_or : entryFor table "set.__or__" = some Builtin.«frozenset.__or__» := entryFor_alias (id' := "frozenset.__or__") (by rw [fastTable_eq_tree]; kernel_rfl) rfl (by decide +kernel) (by rw [fastTable_eq_tree]; kernel_rfl)
theorem entry_set_and : entryFor table "set.__and__" = some Builtin.«frozenset.__and__» := entryFor_alias (id' := "frozenset.__and__") (by rw [fastTable_eq_tree]; kernel_rfl) rfl (by decide +kernel) (by rw [fastTable_eq_tree]; kernel_rfl)
theorem entry_set_sub : entryFor table "set.__sub__" = some Builtin.«frozenset.__sub__» := entryFor_alias (id' := "frozenset.__sub__") (by rw [fastTable_eq_tree]; kernel_rfl) rfl (by decide +kernel) (by rw [fastTable_eq_tree]; kernel_rfl)
theorem entry_set_ne : entryFor table "set.__ne__" = some Builtin.«frozenset.__ne__» := entryFor_alias (id' := "frozenset.__ne__") (by rw [fastTable_eq_tree]; kernel_rfl) rfl (by decide +kernel) (by rw [fastTable_eq_tree]; kernel_rfl)
theorem entry_set_iter : entryFor table "set.__iter__" = some Builtin.«frozenset.__iter__» := entryFor_alias (id' := "frozenset.__iter__") (by rw [fastTable_eq_tree]; kernel_rfl) rfl (by decide +kernel) (by rw [fastTable_eq_tree]; kernel_rfl)

end Mine

/- part QD -/
namespace Mine
open PySem PySem.W PySem.Calls PyProof.Rows

noncomputable def itx (l l' : List Nat) : List Nat := cn fun x => decide (x ∈ l) && decide (x ∈ l')
noncomputable def dif (l l' : List Nat) : List Nat := cn fun x => decide (x ∈ l) && !decide (x ∈ l')
section
variable {B : Bs} {A : Around} {E : Value → Shared → Prop} {s : Shared} {a b o : Addr} {l l' : List Nat}
noncomputable abbrev freshO (B : Bs) : Obj := { cls := .type "set", dict := none, data := .set #[] 0 (.fresh 0 0 (!B.C.txt)) }
theorem fresh_can {h : Heap} {a : Addr} (ho : h.get? a = some (freshO B)) : CanAt B h a [] := ⟨fun _ => 0, 0, 7, 0, 0, !B.C.txt, ho, .inl rfl, fun e => by rw [e]; rfl, by decide⟩
theorem newSet_can {Q : Value → Shared → Prop} (h : Q (.ref s.heap.objs.size) { s with heap := s.heap.push (freshO B) }) : wpAny B.M A (newSet (.type "set")) Q E s := by
  unfold newSet
  refine wpAny_bind (byText_is ?_)
  dsimp only
  simp only [newObj]
  exact wpAny_bind (wpAny_alloc (wpAny_pure h))
theorem CanAt.typeIs (H : CanAt B s.heap a l) : s.TypeIs (.ref a) "set" := let ⟨_, _, _, _, _, _, ho, _⟩ := H; ⟨_, ho, rfl⟩
theorem CanAt.lt {h : Heap} (H : CanAt B h a l) : a < h.objs.size := let ⟨_, _, _, _, _, _, ho, _⟩ := H; Heap.lt_size ho
theorem CanAt.push {h : Heap} (H : CanAt B h a l) (o : Obj) : CanAt B (h.push o) a l := H.keep fun _ e => Heap.get?_push_of_some _ e
theorem CanAt.inj {h : Heap} (H : CanAt B h a l) (H' : CanAt B h a l') : l = l' := by
  obtain ⟨ts, ep, mask, f, mv, led, ho, _⟩ := H
  obtain ⟨ts', ep', mask', f', mv', led', ho', _⟩ := H'
  have := Option.some.inj (ho.symm.trans ho')
  have h2 := congrArg (fun o : Obj => match o.data with | .set _ _ t => t.place | _ => #[]) this
  simpa [setTb] using h2
theorem isAnySet_can {Q : Bool → Shared → Prop} (H : CanAt B s.heap a l) (h : Q true s) : wpAny B.M A (Builtin.Frozenset.isAnySet (.ref a)) Q E s := by
  unfold Builtin.Frozenset.isAnySet
  exact wpAny_bind (wpAny_isInstance H.typeIs sub_set_self (wpAny_pure h))
theorem sizeOf_can {Q : Nat → Shared → Prop} (H : CanAt B s.heap a l) (h : Q l.length s) : wpAny B.M A (Builtin.Frozenset.sizeOf a) Q E s := by
  obtain ⟨ts, ep, mask, f, mv, led, ho, hm, hd, hl⟩ := H
  unfold Builtin.Frozenset.sizeOf
  refine wpAny_bind (wpAny_setEntries_of ho rfl (fits_can ts hl hm) (wpAny_pure ?_))
  rw [size_es]; exact h
theorem epoch_can {Q : Nat → Shared → Prop} (H : CanAt B s.heap a l) (h : ∀ ep, (∀ (s' : Shared) (R : Unit → Shared → Prop) (E' : Value → Shared → Prop) (A' : Around) (id : String), s'.heap.get? a = s.heap.get? a → R () s' → wpAny B.M A' (Builtin.Frozenset.unchanged id a ep) R E' s') → Q ep s) :
    wpAny B.M A (setEpoch a) Q E s := by
  obtain ⟨ts, ep, mask, f, mv, led, ho, hm, hd, hl⟩ := H
  refine wpAny_setEpoch_of ho rfl (fits_can ts hl hm) (h ep fun s' R E' A' id e hR => ?_)
  unfold Builtin.Frozenset.unchanged
  refine wpAny_bind (wpAny_setEpoch_of (e.trans ho) rfl (fits_can ts hl hm) ?_)
  exact wpAny_ite_split (fun hab => by simp at hab) (fun _ => wpAny_pure hR)
theorem copyOf_can {Q : Value → Shared → Prop} (H : CanAt B s.heap a l) (h : ∀ h', (∀ b o, s.heap.get? b = some o → h'.get? b = some o) → CanAt B h' s.heap.objs.size l → Q (.ref s.heap.objs.size) { s with heap := h' }) :
    wpAny B.M A (Builtin.Frozenset.copyOf a) Q E s := by
  unfold Builtin.Frozenset.copyOf Builtin.Frozenset.baseOf
  refine wpAny_bind (wpAny_bind (wpAny_isInstance H.typeIs sub_set_self ?_))
  simp only [↓reduceIte]
  refine wpAny_pure (wpAny_bind (newSet_can ?_))
  refine wpAny_bind (m := Builtin.Frozenset.addrOf _) (wpAny_pure ?_)
  have Hn : CanAt B (s.heap.push (freshO B)) s.heap.objs.size [] := fresh_can (Heap.get?_push_size _ rfl)
  refine wpAny_bind (setMerge_can Hn (H.push _) (Nat.ne_of_gt H.lt) (fun s' Q _ hq => wpAny_pure hq) fun h' hs hc => wpAny_pure (h h' (fun b o e => ?_) ?_))
  · exact (hs.2 b (Nat.ne_of_lt (Heap.lt_size e))).trans (Heap.get?_push_of_some _ e)
  · have e : uni [] l = l := subs_ext (cn_subs _) H.sub fun x hx => by rw [mem_uni (by decide) H.sub]; simp
    rw [e] at hc; exact hc
theorem union_can {Q : Value → Shared → Prop} (H : CanAt B s.heap a l) (H' : CanAt B s.heap b l') (h : ∀ h', (∀ c o, s.heap.get? c = some o → h'.get? c = some o) → CanAt B h' s.heap.objs.size (uni l l') → Q (.ref s.heap.objs.size) { s with heap := h' }) :
    wpAny B.M A (binaryOp .BitOr (.ref a) (.ref b)) Q E s := by
  refine wpAny_binaryOp_same H.typeIs H'.typeIs PySem.F.fills_set_or PySem.F.slot_set_or (wpAny_call_entry PySem.F.slot_set_or H.typeIs entry_set_or ?_ (PySem.F.args_set_or_2 _ _))
  show wpAny B.M A.in1 ((Builtin.Frozenset.isAnySet (.ref a) <&&> Builtin.Frozenset.isAnySet (.ref b)) >>= _) _ _ _
  refine wpAny_bind (wpAny_bind (isAnySet_can H ?_))
  refine isAnySet_can H' ?_
  refine wpAny_ite_split (fun hab => by simp at hab) (fun _ => ?_)
  refine wpAny_bind (m := Builtin.Frozenset.addrOf _) (wpAny_pure ?_)
  show wpAny B.M A.in1 ((Builtin.Frozenset.copyOf a >>= _) >>= _) _ _ _
  refine wpAny_bind (wpAny_bind (copyOf_can H fun h₁ hk H₁ => ?_))
  have H1' : CanAt B h₁ b l' := H'.keep fun o e => hk b o e
  have H1 : CanAt B h₁ a l := H.keep fun o e => hk a o e
  have fin : ∀ {h' : Heap}, (∀ c o, s.heap.get? c = some o → h'.get? c = some o) → CanAt B h' s.heap.objs.size (uni l l') →
      wpAny B.M A.in1 (ret (.ref s.heap.objs.size)) (fun fin s' => ∃ v, fin = .done (.ret v) ∧ v ≠ .notImplemented ∧ Q v s') E { s with heap := h' } := fun k c => wpAny_pure ⟨_, rfl, (fun x => nomatch x), h _ k c⟩
  have ended : ∀ {h' : Heap}, (∀ c o, s.heap.get? c = some o → h'.get? c = some o) → CanAt B h' s.heap.objs.size (uni l l') →
      wpAny B.M A.in1 (pure (Value.ref s.heap.objs.size)) (fun v s' => wpAny B.M A.in1 (ret v) (fun fin s' => ∃ v, fin = .done (.ret v) ∧ v ≠ .notImplemented ∧ Q v s') E s') E { s with heap := h' } := fun k c => wpAny_pure (fin k c)
  refine wpAny_ite_split (fun hne => ?_) (fun he => ?_)
  · refine wpAny_bind (m := Builtin.Frozenset.addrOf _) (wpAny_pure ?_)
    refine wpAny_bind (wpAny_holding ?_)
    unfold Builtin.Frozenset.updateFrom
    refine wpAny_bind (isAnySet_can H1' ?_)
    simp only [↓reduceIte]
    refine wpAny_bind (m := Builtin.Frozenset.addrOf _) (wpAny_pure ?_)
    unfold Builtin.Frozenset.merge
    refine wpAny_bind (epoch_can H1' fun ep hep => ?_)
    have hnb : s.heap.objs.size ≠ b := Nat.ne_of_gt H'.lt
    refine setMerge_can H₁ H1' hnb (fun s' Q e hq => hep s' Q _ _ _ e hq) fun h₂ hs₂ H₂ => ended (fun c o e => ?_) H₂
    exact (hs₂.2 c (Nat.ne_of_lt (Heap.lt_size e))).trans (hk c o e)
  · have : b = a := by
      have : ¬ (Value.ref b ≠ Value.ref a) := fun q => he (bne_iff_ne.mpr q)
      have := Classical.not_not.mp this
      injection this
    subst this
    have e := CanAt.inj H H'
    subst e
    have : uni l l = l := subs_ext (cn_subs _) H.sub fun x hx => by rw [mem_uni H.sub H.sub]; simp
    exact ended hk (this.symm ▸ H₁)
end
end Mine

/- part QE -/
namespace Mine
open PySem PySem.W PySem.Calls PyProof.Rows

section
variable {B : Bs} {A : Around} {E : Value → Shared → Prop} {s : Shared} {a b o : Addr} {l l' : List Nat}
theorem baseOf_can {Q : Value → Shared → Prop} (H : CanAt B s.heap a l) (h : Q (.type "set") s) : wpAny B.M A (Builtin.Frozenset.baseOf a) Q E s := by
  unfold Builtin.Frozenset.baseOf
  refine wpAny_bind (wpAny_isInstance H.typeIs sub_set_self ?_)
  simp only [↓reduceIte]
  exact wpAny_pure h
theorem inter_can {Q : Value → Shared → Prop} (H : CanAt B s.heap a l) (H' : CanAt B s.heap b l') (h : ∀ h', (∀ c o, s.heap.get? c = some o → h'.get? c = some o) → CanAt B h' s.heap.objs.size (itx l l') → Q (.ref s.heap.objs.size) { s with heap := h' }) :
    wpAny B.M A (binaryOp .BitAnd (.ref a) (.ref b)) Q E s := by
  refine wpAny_binaryOp_same H.typeIs H'.typeIs PySem.F.fills_set_and PySem.F.slot_set_and (wpAny_call_entry PySem.F.slot_set_and H.typeIs entry_set_and ?_ (PySem.F.args_set_and_2 _ _))
  show wpAny B.M A.in1 ((Builtin.Frozenset.isAnySet (.ref a) <&&> Builtin.Frozenset.isAnySet (.ref b)) >>= _) _ _ _
  refine wpAny_bind (wpAny_bind (isAnySet_can H ?_))
  refine isAnySet_can H' ?_
  refine wpAny_ite_split (fun hab => by simp at hab) (fun _ => ?_)
  refine wpAny_bind (m := Builtin.Frozenset.addrOf _) (wpAny_pure ?_)
  refine wpAny_bind (m := Builtin.Frozenset.intersection _ _ _) ?_
  have fin : ∀ {h' : Heap}, (∀ c o, s.heap.get? c = some o → h'.get? c = some o) → CanAt B h' s.heap.objs.size (itx l l') →
      wpAny B.M A.in1 (ret (.ref s.heap.objs.size)) (fun fin s' => ∃ v, fin = .done (.ret v) ∧ v ≠ .notImplemented ∧ Q v s') E { s with heap := h' } := fun k c => wpAny_pure ⟨_, rfl, (fun x => nomatch x), h _ k c⟩
  unfold Builtin.Frozenset.intersection
  refine wpAny_ite_split (fun he => ?_) (fun hne => ?_)
  · have : b = a := by have := eq_of_beq he; injection this
    subst this
    have e := CanAt.inj H H'
    subst e
    have : itx l l = l := subs_ext (cn_subs _) H.sub fun x hx => by unfold itx; rw [mem_cn]; simp; intro _; simpa using hx
    exact copyOf_can H fun h₁ hk H₁ => fin hk (this.symm ▸ H₁)
  · refine wpAny_bind (baseOf_can H (wpAny_bind (newSet_can ?_)))
    refine wpAny_bind (m := Builtin.Frozenset.addrOf _) (wpAny_pure ?_)
    have Hn : CanAt B (s.heap.push (freshO B)) s.heap.objs.size [] := fresh_can (Heap.get?_push_size _ rfl)
    have H1 := H.push (freshO B)
    have H1' := H'.push (freshO B)
    refine wpAny_bind (wpAny_holding ?_)
    refine wpAny_bind (isAnySet_can H1' ?_)
    simp only [↓reduceIte]
    refine wpAny_bind (m := Builtin.Frozenset.addrOf _) (wpAny_pure ?_)
    refine wpAny_bind (sizeOf_can H1' (wpAny_bind (sizeOf_can H1 ?_)))
    have loop : ∀ (asked walked : Addr) (la lw : List Nat), CanAt B (s.heap.push (freshO B)) asked la → CanAt B (s.heap.push (freshO B)) walked lw → asked ≠ s.heap.objs.size → walked ≠ s.heap.objs.size → (∀ x ∈ U5, x ∈ itx l l' ↔ x ∈ la ∧ x ∈ lw) → ∀ id : String,
        wpAny B.M A.in1 (do
          let was ← setEpoch walked
          for (h, x) in ← setWalkUnseen walked [asked, s.heap.objs.size] (some s.heap.objs.size) do
            holding [x] do
              if (← setFind asked x h).isSome then
                let _ ← setAddHashed s.heap.objs.size x h
            Builtin.Frozenset.unchanged id walked was) (fun _ s' => wpAny B.M A.in1 (ret (.ref s.heap.objs.size)) (fun fin s' => ∃ v, fin = .done (.ret v) ∧ v ≠ .notImplemented ∧ Q v s') E s') E { s with heap := s.heap.push (freshO B) } := by
      intro asked walked la lw Ha Hw na nw hx id
      refine wpAny_bind (epoch_can Hw fun ep hep => ?_)
      refine wpAny_bind (setWalkUnseen_can Hw fun p tsp hp => ?_)
      rw [← Array.forIn_toList]
      have hpU : ∀ x ∈ p, x ∈ U5 := fun x hx => subs_U5 lw Hw.sub x (hp.mem_iff.mp hx)
      refine wpAny_bind (forArr (fun i s' => ∃ h₂ lc, s' = { s with heap := h₂ } ∧ Heap.SameBut s.heap.objs.size (s.heap.push (freshO B)) h₂ ∧ CanAt B h₂ s.heap.objs.size lc ∧ ∀ x ∈ U5, (x ∈ lc ↔ x ∈ la ∧ x ∈ p.take i)) (p.map (ent tsp)) 0 _
        ⟨_, [], rfl, Heap.SameBut.refl _ _, Hn, fun x _ => by simp⟩ ?_ ?_)
      · rintro j x s' hx ⟨h₂, lc, rfl, hs₂, H₂, hlc⟩
        rw [List.getElem?_map] at hx
        cases hpj : p[j]? with
        | none => rw [hpj] at hx; cases hx
        | some y =>
          rw [hpj] at hx
          cases hx
          have hy := hpU y (List.mem_of_getElem? hpj)
          dsimp only
          have Ha2 : CanAt B h₂ asked la := Ha.keep fun o e => (hs₂.2 asked na).trans e
          refine wpAny_bind (wpAny_holding (wpAny_bind (setFind_can Ha2 hy fun r hr => ?_)))
          refine wpAny_ite_split (fun hin => ?_) (fun hout => ?_)
          · have hyl : y ∈ la := of_decide_eq_true (hr ▸ hin)
            refine wpAny_bind (setAdd_can H₂ hy fun h₃ r hs₃ H₃ => wpAny_pure ?_)
            have ew : h₃.get? walked = (s.heap.push (freshO B)).get? walked := (hs₃.2 walked nw).trans (hs₂.2 walked nw)
            refine wpAny_bind (hep _ _ _ _ _ ew (wpAny_pure ⟨rfl, h₃, insN y lc, rfl, hs₂.trans hs₃, H₃, fun x hx => ?_⟩))
            rw [mem_insN H₂.sub hy, hlc x hx, Nat.zero_add, List.take_add_one, hpj]
            simp
            constructor
            · rintro (e | ⟨h1, h2⟩)
              · exact ⟨e ▸ hyl, .inr e⟩
              · exact ⟨h1, .inl h2⟩
            · rintro ⟨h1, h2 | h2⟩
              · exact .inr ⟨h1, h2⟩
              · exact .inl h2
          · have hyl : y ∉ la := fun q => hout (by rw [hr]; exact decide_eq_true q)
            refine wpAny_pure ?_
            have ew : h₂.get? walked = (s.heap.push (freshO B)).get? walked := hs₂.2 walked nw
            refine wpAny_bind (hep _ _ _ _ _ ew (wpAny_pure ⟨rfl, h₂, lc, rfl, hs₂, H₂, fun x hx => ?_⟩))
            rw [hlc x hx, Nat.zero_add, List.take_add_one, hpj]
            simp
            intro h1 e
            rw [e] at h1
            exact absurd h1 hyl
      · rintro s' ⟨h₂, lc, rfl, hs₂, H₂, hlc⟩
        have e : lc = itx l l' := subs_ext H₂.sub (cn_subs _) fun x hx' => by
          rw [hlc x hx', hx x hx', List.take_of_length_le (by simp), hp.mem_iff]
        subst e
        exact wpAny_pure (fin (fun c o e => (hs₂.2 c (Nat.ne_of_lt (Heap.lt_size e))).trans (Heap.get?_push_of_some _ e)) H₂)
    have na : a ≠ s.heap.objs.size := Nat.ne_of_lt H.lt
    have nb : b ≠ s.heap.objs.size := Nat.ne_of_lt H'.lt
    have hx : ∀ x ∈ U5, x ∈ itx l l' ↔ x ∈ l ∧ x ∈ l' := fun x hx => by unfold itx; rw [mem_cn]; simp; intro _ _; simpa using hx
    by_cases hlt : l'.length > l.length
    · rw [if_pos hlt]
      exact wpAny_mono (loop b a l' l H1' H1 nb na (fun x h => (hx x h).trans and_comm) _) (fun _ _ h => wpAny_pure h) fun _ _ e => e
    · rw [if_neg hlt]
      exact wpAny_mono (loop a b l l' H1 H1' na nb hx _) (fun _ _ h => wpAny_pure h) fun _ _ e => e
end
end Mine

/- part QF -/
namespace Mine
open PySem PySem.W PySem.Calls PyProof.Rows

section
variable {B : Bs} {A : Around} {E : Value → Shared → Prop} {s : Shared} {a b o : Addr} {l l' : List Nat}
theorem diff_can {Q : Value → Shared → Prop} (H : CanAt B s.heap a l) (H' : CanAt B s.heap b l') (h0 : l' ≠ []) (h : ∀ h', (∀ c o, s.heap.get? c = some o → h'.get? c = some o) → CanAt B h' s.heap.objs.size (dif l l') → Q (.ref s.heap.objs.size) { s with heap := h' }) :
    wpAny B.M A (binaryOp .Sub (.ref a) (.ref b)) Q E s := by
  refine wpAny_binaryOp_same H.typeIs H'.typeIs PySem.F.fills_set_sub PySem.F.slot_set_sub (wpAny_call_entry PySem.F.slot_set_sub H.typeIs entry_set_sub ?_ (PySem.F.args_set_sub_2 _ _))
  show wpAny B.M A.in1 ((Builtin.Frozenset.isAnySet (.ref a) <&&> Builtin.Frozenset.isAnySet (.ref b)) >>= _) _ _ _
  refine wpAny_bind (wpAny_bind (isAnySet_can H ?_))
  refine isAnySet_can H' ?_
  refine wpAny_ite_split (fun hab => by simp at hab) (fun _ => ?_)
  refine wpAny_bind (m := Builtin.Frozenset.addrOf _) (wpAny_pure ?_)
  refine wpAny_bind (m := Builtin.Frozenset.difference _ _ _) ?_
  have fin : ∀ {h' : Heap}, (∀ c o, s.heap.get? c = some o → h'.get? c = some o) → CanAt B h' s.heap.objs.size (dif l l') →
      wpAny B.M A.in1 (ret (.ref s.heap.objs.size)) (fun fin s' => ∃ v, fin = .done (.ret v) ∧ v ≠ .notImplemented ∧ Q v s') E { s with heap := h' } := fun k c => wpAny_pure ⟨_, rfl, (fun x => nomatch x), h _ k c⟩
  unfold Builtin.Frozenset.difference
  refine wpAny_bind (isAnySet_can H' ?_)
  refine wpAny_ite_split (fun hab => by simp at hab) (fun _ => ?_)
  refine wpAny_bind (m := Builtin.Frozenset.addrOf _) (wpAny_pure ?_)
  refine wpAny_ite_split (fun hab => by simp at hab) (fun _ => ?_)
  simp only [↓reduceIte]
  refine wpAny_bind (sizeOf_can H' (wpAny_bind (sizeOf_can H ?_)))
  refine wpAny_ite_split (fun hab => ?_) (fun _ => ?_)
  · exfalso
    have := H.len
    have : 0 < l'.length := List.length_pos_iff.mpr h0
    omega
  refine wpAny_bind (baseOf_can H (wpAny_bind (newSet_can ?_)))
  refine wpAny_bind (m := Builtin.Frozenset.addrOf _) (wpAny_pure ?_)
  have Hn : CanAt B (s.heap.push (freshO B)) s.heap.objs.size [] := fresh_can (Heap.get?_push_size _ rfl)
  have H1 := H.push (freshO B)
  have H1' := H'.push (freshO B)
  have na : a ≠ s.heap.objs.size := Nat.ne_of_lt H.lt
  have nb : b ≠ s.heap.objs.size := Nat.ne_of_lt H'.lt
  refine wpAny_bind (epoch_can H1 fun ep hep => ?_)
  refine wpAny_bind (wpAny_holding ?_)
  refine wpAny_bind (setWalkUnseen_can H1 fun p tsp hp => ?_)
  rw [← Array.forIn_toList]
  have hpU : ∀ x ∈ p, x ∈ U5 := fun x hx => subs_U5 l H.sub x (hp.mem_iff.mp hx)
  refine wpAny_bind (forArr (fun i s' => ∃ h₂ lc, s' = { s with heap := h₂ } ∧ Heap.SameBut s.heap.objs.size (s.heap.push (freshO B)) h₂ ∧ CanAt B h₂ s.heap.objs.size lc ∧ ∀ x ∈ U5, (x ∈ lc ↔ x ∉ l' ∧ x ∈ p.take i)) (p.map (ent tsp)) 0 _
    ⟨_, [], rfl, Heap.SameBut.refl _ _, Hn, fun x _ => by simp⟩ ?_ ?_)
  · rintro j x s' hx ⟨h₂, lc, rfl, hs₂, H₂, hlc⟩
    rw [List.getElem?_map] at hx
    cases hpj : p[j]? with
    | none => rw [hpj] at hx; cases hx
    | some y =>
      rw [hpj] at hx
      cases hx
      have hy := hpU y (List.mem_of_getElem? hpj)
      dsimp only
      have Hb2 : CanAt B h₂ b l' := H1'.keep fun o e => (hs₂.2 b nb).trans e
      refine wpAny_bind (wpAny_holding (wpAny_bind (setFind_can Hb2 hy fun r hr => wpAny_bind (wpAny_pure ?_))))
      refine wpAny_ite_split (fun hin => ?_) (fun hout => ?_)
      · have hyl : y ∉ l' := fun q => by rw [hr, decide_eq_true q] at hin; simp at hin
        refine wpAny_bind (setAdd_can H₂ hy fun h₃ r hs₃ H₃ => wpAny_pure ?_)
        have ew : h₃.get? a = (s.heap.push (freshO B)).get? a := (hs₃.2 a na).trans (hs₂.2 a na)
        refine wpAny_bind (hep _ _ _ _ _ ew (wpAny_pure ⟨rfl, h₃, insN y lc, rfl, hs₂.trans hs₃, H₃, fun x hx => ?_⟩))
        rw [mem_insN H₂.sub hy, hlc x hx, Nat.zero_add, List.take_add_one, hpj]
        simp
        constructor
        · rintro (e | ⟨h1, h2⟩)
          · exact ⟨e ▸ hyl, .inr e⟩
          · exact ⟨h1, .inl h2⟩
        · rintro ⟨h1, h2 | h2⟩
          · exact .inr ⟨h1, h2⟩
          · exact .inl h2
      · have hyl : y ∈ l' := by
          refine Classical.byContradiction fun q => hout ?_
          rw [hr, decide_eq_false q]; rfl
        refine wpAny_pure ?_
        have ew : h₂.get? a = (s.heap.push (freshO B)).get? a := hs₂.2 a na
        refine wpAny_bind (hep _ _ _ _ _ ew (wpAny_pure ⟨rfl, h₂, lc, rfl, hs₂, H₂, fun x hx => ?_⟩))
        rw [hlc x hx, Nat.zero_add, List.take_add_one, hpj]
        simp
        intro h1 e
        rw [e] at h1
        exact absurd hyl h1
  · rintro s' ⟨h₂, lc, rfl, hs₂, H₂, hlc⟩
    have e : lc = dif l l' := subs_ext H₂.sub (cn_subs _) fun x hx' => by
      rw [hlc x hx', List.take_of_length_le (by simp), hp.mem_iff]
      unfold dif; rw [mem_cn]; simp
      constructor
      · rintro ⟨h1, h2⟩; exact ⟨by simpa using hx', h2, h1⟩
      · rintro ⟨_, h2, h1⟩; exact ⟨h1, h2⟩
    subst e
    exact wpAny_pure (wpAny_pure (fin (fun c o e => (hs₂.2 c (Nat.ne_of_lt (Heap.lt_size e))).trans (Heap.get?_push_of_some _ e)) H₂))

theorem ne_can {Q : Value → Shared → Prop} (hu : A.units < cLine) (H : CanAt B s.heap a l) (H' : CanAt B s.heap b []) (h : Q (.bool (!l.isEmpty)) s) : wpAny B.M A (compareOp .NotEq (.ref a) (.ref b)) Q E s := by
  show wpAny B.M A (richCompare .NotEq (.ref a) (.ref b)) _ _ _
  refine wpAny_richCompare_same_room H.typeIs H'.typeIs PySem.F.slot_set_ne (wpAny_call_entry PySem.F.slot_set_ne H.typeIs entry_set_ne ?_ (PySem.F.args_set_ne_2 _ _)) hu
  show wpAny B.M A.in1 (Builtin.Frozenset.isAnySet (.ref b) >>= _) _ _ _
  refine wpAny_bind (isAnySet_can H' ?_)
  refine wpAny_ite_split (fun hab => by simp at hab) (fun _ => ?_)
  refine wpAny_bind (m := Builtin.Frozenset.addrOf _) (wpAny_pure ?_)
  refine wpAny_bind (m := Builtin.Frozenset.addrOf _) (wpAny_pure ?_)
  refine wpAny_bind (sizeOf_can H (wpAny_bind (sizeOf_can H' ?_)))
  cases l with
  | cons x r =>
    refine wpAny_bind (wpAny_ite_split (fun _ => wpAny_pure ?_) (fun hab => by simp at hab))
    exact wpAny_pure ⟨_, rfl, (fun x => nomatch x), h⟩
  | nil =>
    refine wpAny_bind (wpAny_ite_split (fun hab => by simp at hab) (fun _ => ?_))
    refine wpAny_bind (wpAny_bind (wpAny_isInstance H.typeIs (b := false) (by rw [isSubtype_type]; kernel_rfl) (wpAny_pure ?_)))
    unfold Builtin.Frozenset.subsetOf
    refine wpAny_bind (sizeOf_can H (wpAny_bind (sizeOf_can H' ?_)))
    refine wpAny_ite_split (fun hab => by simp at hab) (fun _ => ?_)
    refine wpAny_bind (epoch_can H fun ep hep => ?_)
    obtain ⟨ts, ep, mask, f, mv, led, ho, hm, hd, hl⟩ := id H
    obtain ⟨ts', ep', mask', f', mv', led', ho', hm', hd', hl'⟩ := id H'
    refine wpAny_bind (m := Builtin.Frozenset.walkUnseen _ _) ?_
    unfold Builtin.Frozenset.walkUnseen
    refine wpAny_bind (wpAny_setEntries_of ho rfl (fits_can ts hl hm) ?_)
    refine wpAny_bind (wpAny_setEntries_of ho' rfl (fits_can ts' hl' hm') ?_)
    refine wpAny_bind (wpAny_pure ?_)
    refine wpAny_pure ?_
    refine wpAny_bind (wpAny_pure ?_)
    exact wpAny_pure (wpAny_pure ⟨_, rfl, (fun x => nomatch x), h⟩)
end
end Mine

/- part QG -/
namespace Mine
open PySem PySem.W PySem.Calls PyProof.Rows

section
variable {B : Bs} {A : Around} {E : Value → Shared → Prop} {s : Shared} {a b o : Addr} {l l' : List Nat}
theorem code_new0 {Q₁ : Value → Shared → Prop} (h : Q₁ (.ref s.heap.objs.size) { s with heap := s.heap.push (freshO B) }) :
    codeAny B.M A (.call (.builtin "set.__new__") ⟨[.type "set"], []⟩) (wants Q₁ E) s := by
  refine codeAny_of_tree ?_
  show wpAny _ A.in1 (do checkBuiltinCall "set.__new__" ⟨[.type "set"], []⟩; again (.builtin "set.__new__" ⟨[.type "set"], []⟩)) _ _ s
  refine wpAny_bind (wpAny_of_eq PySem.F.newCall_set_0 (wpAny_pure ⟨plainId_quiet PySem.F.plain_set_new _, codeAny_builtin PySem.F.entry_set_new ?_⟩))
  rw [Around.under_plainId PySem.F.plain_set_new _]
  unfold Builtin.«set.__new__» Builtin.Frozenset.newClass
  have hsub := sub_set_self
  have ht := B.txt
  obtain ⟨hp, g, d, tk, os⟩ := s
  dsimp only
  wp_walk
  refine wpAny_askSetting (wpAny_pure ?_)
  dsimp only
  simp only [newObj]
  refine wpAny_bind (wpAny_alloc (wpAny_pure ?_))
  refine wpAny_pure ?_
  rw [show (model PG B.w).w.params.followText "set-order" = B.C.txt from ht]
  exact h
theorem code_new1 (x : Value) {Q₁ : Value → Shared → Prop} (h : Q₁ (.ref s.heap.objs.size) { s with heap := s.heap.push (freshO B) }) :
    codeAny B.M A (.call (.builtin "set.__new__") ⟨[.type "set", x], []⟩) (wants Q₁ E) s := by
  refine codeAny_of_tree ?_
  show wpAny _ A.in1 (do checkBuiltinCall "set.__new__" ⟨[.type "set", x], []⟩; again (.builtin "set.__new__" ⟨[.type "set", x], []⟩)) _ _ s
  refine wpAny_bind (wpAny_of_eq (PySem.F.newCall_set_1 x) (wpAny_pure ⟨plainId_quiet PySem.F.plain_set_new _, codeAny_builtin PySem.F.entry_set_new ?_⟩))
  rw [Around.under_plainId PySem.F.plain_set_new _]
  unfold Builtin.«set.__new__» Builtin.Frozenset.newClass
  have hsub := sub_set_self
  have ht := B.txt
  obtain ⟨hp, g, d, tk, os⟩ := s
  dsimp only
  wp_walk
  refine wpAny_askSetting (wpAny_pure ?_)
  dsimp only
  simp only [newObj]
  refine wpAny_bind (wpAny_alloc (wpAny_pure ?_))
  refine wpAny_pure ?_
  rw [show (model PG B.w).w.params.followText "set-order" = B.C.txt from ht]
  exact h
set_option maxHeartbeats 4000000 in
theorem set_empty_gen {prog : Program} {w : World} (led : Bool) {Q : Value → Shared → Prop}
    (hnew : codeAny (model prog w) A.in1 (.call (.builtin "set.__new__") ⟨[.type "set"], []⟩) (wants (fun obj s₁ => obj = .ref s.heap.objs.size ∧ s₁ = { s with heap := s.heap.push { cls := .type "set", dict := none, data := .set #[] 0 (.fresh 0 0 led) } }) E) s)
    (h : Q (.ref s.heap.objs.size) { s with heap := s.heap.push { cls := .type "set", dict := none, data := .set #[] 0 (.fresh 0 0 led) } }) : wpAny (model prog w) A (call (.type "set") []) Q E s := by
  obtain ⟨c, tl, hmro⟩ := PySem.F.called_set.mro
  have hmade := PySem.F.called_set.made
  have hsub := PySem.F.called_set.sub
  refine wpAny_call (codeAny_of_tree ?_)
  show wpAny _ _ (callAny (.type "set") _) _ _ _
  refine wpAny_pure ⟨Code.quiet_builtin _ (by decide +kernel), codeAny_builtin PySem.F.entry_type_call ?_⟩
  rw [Around.under_plain (weight_type_call_type "set" [] []) rfl]
  have h1 := PySem.F.called_set.notType
  have h2 := PySem.F.called_set.canCreate
  have hct := PySem.F.typeCall_set_0
  repeat (any_goals (first | assumption | wp_step))
  refine codeAny_mono hnew fun r s₁ hr => ?_
  cases r with
  | error e => exact hr
  | ok fl =>
    cases fl with
    | ret obj =>
      obtain ⟨rfl, rfl⟩ := hr
      have hS : (s.heap.push { cls := .type "set", dict := none, data := .set #[] 0 (.fresh 0 0 led) }).get? s.heap.objs.size = some { cls := .type "set", dict := none, data := .set #[] 0 (.fresh 0 0 led) } := Heap.get?_push_size _ rfl
      have hT : Shared.TypeIs { s with heap := s.heap.push { cls := .type "set", dict := none, data := .set #[] 0 (.fresh 0 0 led) } } (.ref s.heap.objs.size) "set" := ⟨_, hS, rfl⟩
      have hli := PySem.F.called_set.init.lookup
      have hbi := PySem.F.called_set.init.bind (.ref s.heap.objs.size)
      repeat (any_goals (first | assumption | wp_step))
      refine codeAny_mono (codeAny_call_builtin (R := wants (fun r s₂ => r = .none ∧ Q (.ref s.heap.objs.size) s₂) E) PySem.F.called_set.init.plain PySem.F.entry_set_init (check_set_init hT ?_)) fun r₂ s₂ hr₂ => ?_
      · unfold Builtin.«set.__init__» noKeywords
        wp_walk
        exact ⟨rfl, h⟩
      · cases r₂ with
        | error e => exact hr₂
        | ok fl₂ =>
          cases fl₂ with
          | ret r =>
            obtain ⟨rfl, hq⟩ := hr₂
            repeat (any_goals (first | assumption | wp_step))
          | _ => exact hr₂.elim
    | _ => exact hr.elim
theorem set_empty_call {Q : Value → Shared → Prop} (h : Q (.ref s.heap.objs.size) { s with heap := s.heap.push (freshO B) }) : wpAny B.M A (call (.type "set") []) Q E s :=
  set_empty_gen (!B.C.txt) (code_new0 ⟨rfl, rfl⟩) h

set_option maxHeartbeats 1000000 in
theorem update_loop {R : Result → Shared → Prop} {I S : Addr} {fp wr : List Addr} {n : Nat} {P : Nat → Value → Prop} {St : Nat → Heap → Prop} {lf : List Nat} (W : Walks PG B.w A.in1 I fp wr n P St) (hSf : S ∉ fp) (val : Nat → Nat)
    (hval : ∀ i v, i < n → P i v → ∃ t, v = .int (val i : Int) t) (hU : ∀ i < n, val i ∈ U5) (hlf : lf ∈ subs) (hfin : ∀ x ∈ U5, x ∈ lf ↔ ∃ j, j < n ∧ val j = x) :
    ∀ (k i : Nat) (s : Shared) (lc : List Nat), n - i = k → i ≤ n → St i s.heap → CanAt B s.heap S lc → (∀ x ∈ U5, x ∈ lc ↔ ∃ j, j < i ∧ val j = x) →
      (∀ h' tk, (∀ b o, b ≠ S → b ∉ wr → s.heap.get? b = some o → h'.get? b = some o) → CanAt B h' S lf → R (.ok (.ret .none)) { s with heap := h', toks := tk }) →
      codeAny B.M A (.builtin "set.update.loop" ⟨[.ref S, .ref I], []⟩) R s := by
  have hSw : S ∉ wr := fun h => hSf (W.sub _ h)
  intro k
  induction k with
  | zero =>
    intro i s lc hk hi hst hS hlc hR
    have hin : i = n := by omega
    subst hin
    refine codeAny_builtin PyProof.Rows.F.entry_set_update_loop ?_
    rw [Around.under_plainId PyProof.Rows.F.plain_set_update_loop _]
    show wpAny _ A.in1 (pyNext (.ref I) >>= _) _ _ s
    refine wpAny_bind (W.done s _ _ hst fun h' tk hk => ?_)
    show wpAny _ A.in1 (ret Value.none) _ _ _
    have e : lc = lf := subs_ext hS.sub hlf fun x hx => (hlc x hx).trans (hfin x hx).symm
    subst e
    exact wpAny_pure (hR h' tk (fun b o _ hb e => hk b o hb e) (hS.keep fun o e => hk S o hSw e))
  | succ k ih =>
    intro i s lc hk hi hst hS hlc hR
    have hlt : i < n := by omega
    refine codeAny_builtin PyProof.Rows.F.entry_set_update_loop ?_
    rw [Around.under_plainId PyProof.Rows.F.plain_set_update_loop _]
    show wpAny _ A.in1 (pyNext (.ref I) >>= _) _ _ s
    refine wpAny_bind (W.item i s _ _ hlt hst fun v h₁ tk₁ hP hst' hk₁ => ?_)
    obtain ⟨t, rfl⟩ := hval i v hlt hP
    have hS' : CanAt B h₁ S lc := hS.keep fun o e => hk₁ S o hSw e
    show wpAny _ A.in1 (holding [Value.int (val i : Int) t] (setAdd S (.int (val i : Int) t)) >>= _) _ _ _
    refine wpAny_bind (wpAny_holding ?_)
    unfold setAdd
    refine wpAny_holding ?_
    refine wpAny_bind ((intKind PG B.w).pyHash (k := (val i : Int)) (intKind_is _ _ _ _) ?_)
    rw [show (intKind PG B.w).hash (val i : Int) = (val i : Int) from hash_U5 _ (hU i hlt)]
    refine setAdd_can (s := { s with heap := h₁, toks := tk₁ + 1 }) hS' (hU i hlt) fun h₂ r hs₂ H₂ => ?_
    refine wpAny_pure ⟨plainId_quiet PyProof.Rows.F.plain_set_update_loop _, ih (i + 1) _ (insN (val i) lc) (by omega) hlt (W.frame _ h₁ h₂ hst' fun b hb o e => ?_) H₂ (fun x hx => ?_) fun h' tk hk' hc => ?_⟩
    · exact (hs₂.2 b (fun h : b = S => hSf (by rw [← h]; exact hb))).trans e
    · rw [mem_insN hS.sub (hU i hlt), hlc x hx]
      constructor
      · rintro (e | ⟨j, hj, e⟩)
        · exact ⟨i, by omega, e.symm⟩
        · exact ⟨j, by omega, e⟩
      · rintro ⟨j, hj, e⟩
        by_cases q : j = i
        · subst q; exact .inl e.symm
        · exact .inr ⟨j, by omega, e⟩
    · exact hR h' tk (fun b o hb hw e => hk' b o hb hw ((hs₂.2 b hb).trans (hk₁ b o hw e))) hc
end
end Mine

/- part QH -/
namespace Mine
open PySem PySem.W PySem.Calls PyProof.Rows

section
variable {B : Bs} {A : Around} {E : Value → Shared → Prop} {s : Shared} {a b o : Addr} {l l' : List Nat}
set_option maxHeartbeats 4000000 in
theorem set_list_gen {prog : Program} {w : World} (led : Bool) {l : Addr} {Q : Value → Shared → Prop} (hh : A.handled = none)
    (hnew : codeAny (model prog w) A.in1 (.call (.builtin "set.__new__") ⟨[.type "set", .ref l], []⟩) (wants (fun obj s₁ => obj = .ref s.heap.objs.size ∧ s₁ = { s with heap := s.heap.push { cls := .type "set", dict := none, data := .set #[] 0 (.fresh 0 0 led) } }) E) s)
    (hinit : ∀ A', A'.handled = none → wpAny (model prog w) A' (Builtin.«set.__init__» ⟨[.ref s.heap.objs.size, .ref l], []⟩) (fun fin s' => fin = .done (.ret .none) ∧ Q (.ref s.heap.objs.size) s') E
      { s with heap := s.heap.push { cls := .type "set", dict := none, data := .set #[] 0 (.fresh 0 0 led) } }) : wpAny (model prog w) A (call (.type "set") [.ref l]) Q E s := by
  obtain ⟨c, tl, hmro⟩ := PySem.F.called_set.mro
  have hmade := PySem.F.called_set.made
  have hsub := PySem.F.called_set.sub
  refine wpAny_call (codeAny_of_tree ?_)
  show wpAny _ _ (callAny (.type "set") _) _ _ _
  refine wpAny_pure ⟨Code.quiet_builtin _ (by decide +kernel), codeAny_builtin PySem.F.entry_type_call ?_⟩
  rw [Around.under_plain (weight_type_call_type "set" [.ref l] []) rfl]
  have h1 := PySem.F.called_set.notType
  have h2 := PySem.F.called_set.canCreate
  have hct := PySem.F.typeCall_set_1 (.ref l)
  repeat (any_goals (first | assumption | wp_step))
  refine codeAny_mono hnew fun r s₁ hr => ?_
  cases r with
  | error e => exact hr
  | ok fl =>
    cases fl with
    | ret obj =>
      obtain ⟨rfl, rfl⟩ := hr
      have hS : (s.heap.push { cls := .type "set", dict := none, data := .set #[] 0 (.fresh 0 0 led) }).get? s.heap.objs.size = some { cls := .type "set", dict := none, data := .set #[] 0 (.fresh 0 0 led) } := Heap.get?_push_size _ rfl
      have hT : Shared.TypeIs { s with heap := s.heap.push { cls := .type "set", dict := none, data := .set #[] 0 (.fresh 0 0 led) } } (.ref s.heap.objs.size) "set" := ⟨_, hS, rfl⟩
      have hli := PySem.F.called_set.init.lookup
      have hbi := PySem.F.called_set.init.bind (.ref s.heap.objs.size)
      repeat (any_goals (first | assumption | wp_step))
      refine codeAny_mono (codeAny_call_builtin (R := wants (fun r s₂ => r = .none ∧ Q (.ref s.heap.objs.size) s₂) E) PySem.F.called_set.init.plain PySem.F.entry_set_init (check_set_init_1 hT ?_)) fun r₂ s₂ hr₂ => ?_
      · refine wpAny_mono (hinit _ (by simp [hh])) (fun fin s' h' => ?_) fun _ _ e => e
        obtain ⟨rfl, hq⟩ := h'
        exact ⟨rfl, hq⟩
      · cases r₂ with
        | error e => exact hr₂
        | ok fl₂ =>
          cases fl₂ with
          | ret r =>
            obtain ⟨rfl, hq⟩ := hr₂
            repeat (any_goals (first | assumption | wp_step))
          | _ => exact hr₂.elim
    | _ => exact hr.elim
end
end Mine

/- part QI -/
namespace Mine
open PySem PySem.W PySem.Calls PyProof.Rows

section
variable {B : Bs} {A : Around} {E : Value → Shared → Prop} {s : Shared} {a b o : Addr} {l l' : List Nat}
theorem ofCut_can {Q : String → Shared → Prop} (H : CanAt B s.heap a l) (h : ∀ t, Q t s) : wpAny B.M A (typeNameOfCut 200 (.ref a)) Q E s := by
  have hT := H.typeIs
  obtain ⟨hp, g, d, tk, os⟩ := s
  wp_walk
  all_goals exact h _
theorem typeIs_list_not {v : Addr} {T : String} (hT : s.TypeIs (.ref v) "list") (h1 : isSubtype (.type "list") (.type "set") = pure false) (h2 : isSubtype (.type "list") (.type "frozenset") = pure false) {Q : Bool → Shared → Prop} (h : Q false s) :
    wpAny B.M A (Builtin.Frozenset.isAnySet (.ref v)) Q E s := by
  unfold Builtin.Frozenset.isAnySet
  exact wpAny_bind (wpAny_isInstance hT h1 (wpAny_isInstance hT h2 h))
/-- set(list) of small naturals -/
theorem init_list {l : Addr} {vs : List Value} {ns : List Nat} {lf : List Nat} {Q : Value → Shared → Prop} (hh : A.handled = none) (hl : s.heap.IsList l vs.toArray) (hi : IntsAre vs (ns.map fun (n : Nat) => (n : Int))) (hU : ∀ n ∈ ns, n ∈ U5)
    (hlf : lf ∈ subs) (hfin : ∀ x ∈ U5, x ∈ lf ↔ x ∈ ns)
    (h : ∀ h' tk, (∀ b o, s.heap.get? b = some o → h'.get? b = some o) → CanAt B h' s.heap.objs.size lf → Q (.ref s.heap.objs.size) { s with heap := h', toks := tk }) :
    wpAny B.M A (call (.type "set") [.ref l]) Q E s := by
  refine set_list_gen (!B.C.txt) hh (code_new1 (.ref l) ⟨rfl, rfl⟩) fun A' hA' => ?_
  have Hn : CanAt B (s.heap.push (freshO B)) s.heap.objs.size [] := fresh_can (Heap.get?_push_size _ rfl)
  have hl1 : (s.heap.push (freshO B)).IsList l vs.toArray := hl.push _
  have hT : Shared.TypeIs { s with heap := s.heap.push (freshO B) } (.ref l) "list" := hl1.typeIs
  show wpAny B.M A' _ _ E { s with heap := s.heap.push (freshO B) }
  unfold Builtin.«set.__init__»
  refine wpAny_bind (m := noKeywords _ _) (wpAny_pure ?_)
  show wpAny B.M A' (typeNameOfCut 200 (.ref s.heap.objs.size) >>= _) _ _ _
  refine wpAny_bind (ofCut_can Hn fun t => ?_)
  refine wpAny_bind (m := checkCount _ _ _ _) (wpAny_pure ?_)
  refine wpAny_bind (m := Builtin.Frozenset.addrOf _) (wpAny_pure ?_)
  have hu : ∀ {R : Bool → Shared → Prop}, R false { s with heap := s.heap.push (freshO B) } → wpAny B.M A' (setUsed s.heap.objs.size) R E { s with heap := s.heap.push (freshO B) } := fun {R} hR => by
    unfold setUsed
    exact wpAny_bind (wpAny_setState_of (Heap.get?_push_size _ rfl) rfl (by rfl) (wpAny_pure hR))
  refine wpAny_bind (hu ?_)
  refine wpAny_ite_split (fun hab => by simp at hab) (fun _ => ?_)
  refine wpAny_bind (m := Builtin.Frozenset.updateFrom _ _ _) ?_
  unfold Builtin.Frozenset.updateFrom
  refine wpAny_bind (typeIs_list_not (T := "") hT (PySem.F.sub_list_set) (PySem.F.sub_list_frozenset) ?_)
  refine wpAny_ite_split (fun hab => by simp at hab) (fun _ => ?_)
  refine wpAny_bind (wpAny_typeOf hT ?_)
  refine wpAny_ite_split (fun hab => absurd hab (by decide)) (fun _ => ?_)
  refine wpAny_bind (wpAny_pyIter_list hl1 ?_)
  have hlS : l < s.heap.objs.size := let ⟨_, ho, _⟩ := hl; Heap.lt_size ho
  have hsz1 : (s.heap.push (freshO B)).objs.size = s.heap.objs.size + 1 := Heap.size_push ..
  have hneI : l ≠ (s.heap.push (freshO B)).objs.size := by rw [hsz1]; exact Nat.ne_of_lt (Nat.lt_succ_of_lt hlS)
  have hSf : s.heap.objs.size ∉ [(s.heap.push (freshO B)).objs.size, l] := by
    rw [hsz1]
    simp only [List.mem_cons, List.not_mem_nil, or_false, not_or]
    exact ⟨Nat.ne_of_lt (Nat.lt_succ_self _), Nat.ne_of_gt hlS⟩
  have hlen : vs.toArray.size = ns.length := by rw [List.size_toArray, hi.length, List.length_map]
  have hval : ∀ i v, i < vs.toArray.size → vs.toArray[i]? = some v → ∃ t, v = .int (ns.getD i 0 : Int) t := fun i v hlt hv => by
    obtain ⟨t, e⟩ := IntsAre.int_at hi i v (by simpa using hv)
    refine ⟨t, ?_⟩
    rw [e]
    congr 1
    rw [List.getD_eq_getElem?_getD, List.getD_eq_getElem?_getD, List.getElem?_map]
    cases hq : ns[i]? with
    | none => rfl
    | some n => rfl
  refine wpAny_bind (wpAny_runValue ?_)
  refine update_loop (fp := [(s.heap.push (freshO B)).objs.size, l]) (wr := [(s.heap.push (freshO B)).objs.size]) (Walks.list (by simp [hA']) (s.heap.push (freshO B)).objs.size l hneI vs.toArray) hSf (fun i => ns.getD i 0) hval (fun i hlt => ?_) hlf (fun x hx => ?_) (vs.toArray.size - 0) 0 _ [] (by omega) (Nat.zero_le _)
    ⟨⟨_, Heap.get?_push_size _ rfl, rfl, rfl⟩, (hl1.push _)⟩ (Hn.push _) (fun x _ => by simp) fun h' tk hk hc => ?_
  · rw [hlen] at hlt
    rw [List.getD_eq_getElem?_getD, List.getElem?_eq_getElem hlt]
    exact hU _ (List.getElem_mem hlt)
  · rw [hfin x hx, List.mem_iff_getElem]
    constructor
    · rintro ⟨i, hi, e⟩
      exact ⟨i, by rw [hlen]; exact hi, by rw [List.getD_eq_getElem?_getD, List.getElem?_eq_getElem hi]; exact e⟩
    · rintro ⟨i, hi, e⟩
      rw [hlen] at hi
      exact ⟨i, hi, by rw [List.getD_eq_getElem?_getD, List.getElem?_eq_getElem hi] at e; exact e⟩
  · refine wpAny_pure ?_
    refine wpAny_pure ⟨rfl, h h' tk (fun b o e => ?_) hc⟩
    have hb : b < s.heap.objs.size := Heap.lt_size e
    exact hk b o (Nat.ne_of_lt hb) (by rw [hsz1]; simp only [List.mem_cons, List.not_mem_nil, or_false]; exact Nat.ne_of_lt (Nat.lt_succ_of_lt hb)) (Heap.get?_push_of_some _ (Heap.get?_push_of_some _ e))
end
end Mine

/- part QJ -/
namespace Mine
open PySem PySem.W PySem.Calls PyProof.Rows

theorem slot_si_next : PySem.Slot "set_iterator" "__next__" "set_iterator.__next__" :=
  .of (owner := "set_iterator") (n := "__next__") (by rw [typeLookup_type, builtinLookup_eq_fast]; kernel_rfl) (by decide +kernel) (by decide +kernel) (by decide +kernel)
    (by first | exact .inl (by decide +kernel) | exact .inr (by decide +kernel)) (by rw [isSubtype_type]; kernel_rfl)
theorem slot_si_iter : PySem.Slot "set_iterator" "__iter__" "set_iterator.__iter__" :=
  .of (owner := "set_iterator") (n := "__iter__") (by rw [typeLookup_type, builtinLookup_eq_fast]; kernel_rfl) (by decide +kernel) (by decide +kernel) (by decide +kernel)
    (by first | exact .inl (by decide +kernel) | exact .inr (by decide +kernel)) (by rw [isSubtype_type]; kernel_rfl)
theorem args_si_next (a : Value) : argsOk "set_iterator.__next__" ⟨[a], []⟩ := by unfold argsOk; kernel_rfl
theorem args_si_iter (a : Value) : argsOk "set_iterator.__iter__" ⟨[a], []⟩ := by unfold argsOk; kernel_rfl
theorem entry_si_next : entryFor table "set_iterator.__next__" = some Builtin.«set_iterator.__next__» := entryFor_of_tree (by kernel_rfl)
theorem entry_si_iter : entryFor table "set_iterator.__iter__" = some Builtin.«dict_keyiterator.__iter__» :=
  entryFor_alias (id' := "dict_keyiterator.__iter__") (by rw [fastTable_eq_tree]; kernel_rfl) (by first | rfl | decide +kernel) (by decide +kernel) (by rw [fastTable_eq_tree]; kernel_rfl)
end Mine

/- part QK -/
namespace Mine
open PySem PySem.W PySem.Calls PyProof.Rows

noncomputable def slotOf (l : List Nat) (i : Nat) : Nat := if i = 0 then 0 else l.getD (i - 1) 0 + 1
theorem below_slot : ∀ l ∈ subs, ∀ i ∈ List.range 6, i ≤ l.length → SetTable.below l.toArray (slotOf l i) = i := by decide +kernel
noncomputable def slotT (B : Bs) (l : List Nat) (i : Nat) : Nat := if B.C.txt then 0 else slotOf l i
noncomputable def ordA (B : Bs) (a : Addr) (ep : Nat) (l : List Nat) (ts : Nat → Tok) : Array (Int × Value) := if B.C.txt then pickOrder (B.w.params.setOrder a ep) (setEs l ts) else setEs l ts
theorem ordA_perm (B : Bs) (a : Addr) (ep : Nat) (l : List Nat) (ts : Nat → Tok) : ∃ p : List Nat, p.Perm l ∧ (ordA B a ep l ts).toList = p.map (ent ts) := by
  refine perm_ent ?_
  unfold ordA
  split
  · exact (pickOrder_perm _ _).trans (by unfold setEs; simp)
  · unfold setEs; simp
theorem ordA_size (B : Bs) (a : Addr) (ep : Nat) (l : List Nat) (ts : Nat → Tok) : (ordA B a ep l ts).size = l.length := by
  obtain ⟨p, hp, e⟩ := ordA_perm B a ep l ts
  rw [← Array.length_toList, e, List.length_map, hp.length_eq]

noncomputable abbrev siO (a : Addr) (n ep slot i : Nat) : Obj := { cls := .type "set_iterator", dict := none, data := .fields #[rawInt slot, rawInt i, .ref a, rawInt n, rawInt ep], slots := #[] }

section
variable {B : Bs} {A : Around} {E : Value → Shared → Prop} {s : Shared} {a I : Addr} {l : List Nat} {ts : Nat → Tok} {ep mask f mv : Nat} {led : Bool}
theorem setNext_can {i : Nat} {Q : Option (Value × Nat) → Shared → Prop} (ho : s.heap.get? a = some (setO l ts ep mask f mv led)) (hm : MaskOk mask) (hd : B.C.txt = false → led = true) (hl : l ∈ subs) (hi : i ≤ l.length)
    (h : Q ((ordA B a ep l ts)[i]?.map fun e => (e.2, slotT B l (i + 1))) s) : wpAny B.M A (setNext a (slotT B l i) i ep) Q E s := by
  unfold setNext
  refine wpAny_bind (wpAny_setState_of ho rfl (fits_can ts hl hm) ?_)
  dsimp only
  refine wpAny_bind (byText_is ?_)
  cases ht : B.C.txt with
  | true =>
    simp only [↓reduceIte]
    refine wpAny_ite_split (fun hab => by simp at hab) (fun _ => ?_)
    unfold setWalk
    refine wpAny_bind (wpAny_bind (wpAny_setState_of ho rfl (fits_can ts hl hm) ?_))
    dsimp only
    refine wpAny_bind (byText_is ?_)
    rw [ht]
    simp only [↓reduceIte]
    refine wpAny_bind (wpAny_askSetting (wpAny_pure (wpAny_pure ?_)))
    unfold ordA slotT at h
    rw [ht] at h
    unfold slotT
    rw [ht]
    exact h
  | false =>
    simp only [Bool.false_eq_true, ↓reduceIte]
    refine wpAny_ite_split (fun hab => ?_) (fun _ => ?_)
    · have h2 : (!(setTb l mask f mv led).plain && decide ((setEs l ts).size > 1)) = true := hab
      simp [setTb] at h2
    refine wpAny_bind ?_
    have hled : led = true := hd ht
    show wpAny _ _ (if (!(setTb l mask f mv led).led && !(setEs l ts).isEmpty) = true then unsupported _ else pure PUnit.unit) _ _ _
    refine wpAny_ite_split (fun hab => by simp [setTb, hled] at hab) (fun _ => wpAny_pure (wpAny_pure ?_))
    have hb : SetTable.below (setTb l mask f mv led).place (slotT B l i) = i := by
      unfold slotT
      rw [ht]
      exact below_slot l hl i (List.mem_range.mpr (by have := subs_len l hl; omega)) hi
    rw [hb]
    unfold ordA slotT at h
    rw [ht] at h
    simp only [Bool.false_eq_true, ↓reduceIte] at h
    have e1 : (setEs l ts)[i]? = l[i]?.map (ent ts) := by unfold setEs; simp
    have e2 : (setTb l mask f mv led).place[i]? = l[i]? := by unfold setTb; simp
    rw [e1] at h ⊢
    rw [e2]
    cases hli : l[i]? with
    | none => rw [hli] at h; exact h
    | some j =>
      rw [hli] at h
      have : slotOf l (i + 1) = j + 1 := by unfold slotOf; simp [hli]
      rw [this] at h
      exact h
theorem next_item {i : Nat} {Q : Option Value → Shared → Prop} (hI : s.heap.get? I = some (siO a l.length ep (slotT B l i) i)) (ho : s.heap.get? a = some (setO l ts ep mask f mv led)) (hm : MaskOk mask) (hd : B.C.txt = false → led = true) (hl : l ∈ subs) (hi : i < l.length)
    (h : ∀ h' v, (ordA B a ep l ts)[i]?.map (·.2) = some v → h'.get? I = some (siO a l.length ep (slotT B l (i + 1)) (i + 1)) → Heap.SameBut I s.heap h' → Q (some v) { s with heap := h' }) : wpAny B.M A (pyNext (.ref I)) Q E s := by
  have hT : s.TypeIs (.ref I) "set_iterator" := ⟨_, hI, rfl⟩
  unfold pyNext
  refine wpAny_bind (wpAny_attempt (wpAny_callSpecial?_slot (name := Str.ofString "__next__") hT slot_si_next (wpAny_call_entry slot_si_next hT entry_si_next ?_ (args_si_next _))))
  show wpAny _ _ (fieldsOf (.ref I) >>= _) _ _ s
  refine wpAny_bind (wpAny_fieldsOf hI rfl ?_)
  show wpAny _ _ (setEntries a >>= _) _ _ s
  refine wpAny_bind (wpAny_setEntries_of ho rfl (fits_can ts hl hm) ?_)
  rw [size_es]
  refine wpAny_ite_split (fun hab => by simp at hab) (fun _ => ?_)
  show wpAny _ _ (setNext a (((slotT B l i : Nat) : Int)).toNat ((i : Int)).toNat ((ep : Int)).toNat >>= _) _ _ s
  rw [Int.toNat_natCast, Int.toNat_natCast, Int.toNat_natCast]
  refine wpAny_bind (setNext_can ho hm hd hl (Nat.le_of_lt hi) ?_)
  have hlt : i < (ordA B a ep l ts).size := by rw [ordA_size]; exact hi
  rw [Array.getElem?_eq_getElem hlt]
  dsimp only [Option.map_some]
  refine wpAny_bind (wpAny_setField_rec hI (by simp) fun h₁ h1 hs1 => ?_)
  refine wpAny_bind (wpAny_setField_rec h1 (by simp) fun h₂ h2 hs2 => ?_)
  exact wpAny_pure ⟨_, rfl, wpAny_pure (h h₂ _ (by rw [Array.getElem?_eq_getElem hlt]; rfl) (by simpa [rawInt, siO] using h2) (hs1.trans hs2))⟩
theorem next_end {Q : Option Value → Shared → Prop} (hh : A.handled = none) (hI : s.heap.get? I = some (siO a l.length ep (slotT B l l.length) l.length)) (ho : s.heap.get? a = some (setO l ts ep mask f mv led)) (hm : MaskOk mask) (hd : B.C.txt = false → led = true) (hl : l ∈ subs)
    (h : ∀ h', Heap.ExtBut I s.heap h' → Q none { s with heap := h' }) : wpAny B.M A (pyNext (.ref I)) Q E s := by
  have hT : s.TypeIs (.ref I) "set_iterator" := ⟨_, hI, rfl⟩
  unfold pyNext
  refine wpAny_bind (wpAny_attempt (wpAny_callSpecial?_slot (name := Str.ofString "__next__") hT slot_si_next (wpAny_call_entry slot_si_next hT entry_si_next ?_ (args_si_next _))))
  show wpAny _ _ (fieldsOf (.ref I) >>= _) _ _ s
  refine wpAny_bind (wpAny_fieldsOf hI rfl ?_)
  show wpAny _ _ (setEntries a >>= _) _ _ s
  refine wpAny_bind (wpAny_setEntries_of ho rfl (fits_can ts hl hm) ?_)
  rw [size_es]
  refine wpAny_ite_split (fun hab => by simp at hab) (fun _ => ?_)
  show wpAny _ _ (setNext a (((slotT B l l.length : Nat) : Int)).toNat ((l.length : Int)).toNat ((ep : Int)).toNat >>= _) _ _ s
  rw [Int.toNat_natCast, Int.toNat_natCast, Int.toNat_natCast]
  refine wpAny_bind (setNext_can ho hm hd hl (Nat.le_refl _) ?_)
  have hlt : ¬ l.length < (ordA B a ep l ts).size := by rw [ordA_size]; omega
  rw [Array.getElem?_eq_none (by omega)]
  dsimp only [Option.map_none]
  refine wpAny_bind (wpAny_setField hI rfl (by simp) ?_)
  show wpAny _ _ (newExc (.type "StopIteration") [] >>= _) _ _ _
  refine wpAny_bind ?_
  simp only [newExc, newTuple]
  refine wpAny_bind (wpAny_newObj_type ?_ (by size_fits))
  refine wpAny_bind (m := firstArgMember _ _) (wpAny_of_eq (a := Value.none) (by first | rfl | (simp only [firstArgMember]; rfl)) ?_)
  refine wpAny_newObj_type ?_ (by size_fits)
  simp only [raiseNew]
  refine wpAny_bind (wpAny_handled ?_)
  first | rw [show A.in1.handled = none from hh] | rw [hh]
  refine wpAny_bind (wpAny_pure (wpAny_throw ?_))
  refine wpAny_bind (wpAny_isInstance (T := "StopIteration") (b := true) ⟨_, Heap.get?_push_size _ rfl, rfl⟩ isSubtype_stop ?_)
  exact wpAny_pure (h _ (((Heap.SameBut.update ..).extBut.push _).push _))
theorem Walks.set_ (hh : A.handled = none) (hne : a ≠ I) (hm : MaskOk mask) (hd : B.C.txt = false → led = true) (hl : l ∈ subs) :
    Walks PG B.w A I [I, a] [I] l.length (fun i v => (ordA B a ep l ts)[i]?.map (·.2) = some v) (fun i h => h.get? I = some (siO a l.length ep (slotT B l i) i) ∧ h.get? a = some (setO l ts ep mask f mv led)) where
  sub := fun b hb => by simp at hb; simp [hb]
  frame := fun _ _ _ st hk => ⟨hk I (by simp) _ st.1, hk a (by simp) _ st.2⟩
  item := fun i s Q E hi st hQ => next_item st.1 st.2 hm hd hl hi fun h' v hv h1 hs => hQ v h' s.toks hv ⟨h1, (hs.2 a hne).trans st.2⟩ fun b o hb e => (hs.2 b fun q => hb (by simp [q])).trans e
  done := fun s Q E st hQ => next_end hh st.1 st.2 hm hd hl fun h' he => hQ h' s.toks fun b o hb e => he b o (fun h => hb (by simp [h])) e
  self := fun i s Q E st hQ => by
    have hT : s.TypeIs (.ref I) "set_iterator" := ⟨_, st.1, rfl⟩
    refine wpAny_pyIter_slot hT slot_si_iter (wpAny_call_entry slot_si_iter hT entry_si_iter ?_ (args_si_iter _))
    show wpAny _ _ (ret (.ref I)) _ _ s
    exact wpAny_pure ⟨_, rfl, "set_iterator", _, hT, slot_si_next.lookup, hQ⟩
theorem iter_set {Q : Value → Shared → Prop} (ho : s.heap.get? a = some (setO l ts ep mask f mv led)) (hm : MaskOk mask) (hd : B.C.txt = false → led = true) (hl : l ∈ subs)
    (h : Q (.ref s.heap.objs.size) { s with heap := s.heap.push (siO a l.length ep (slotT B l 0) 0) }) : wpAny B.M A (pyIter (.ref a)) Q E s := by
  have H : CanAt B s.heap a l := ⟨ts, ep, mask, f, mv, led, ho, hm, hd, hl⟩
  refine wpAny_pyIter_slot H.typeIs PySem.F.slot_set_iter (wpAny_call_entry PySem.F.slot_set_iter H.typeIs entry_set_iter ?_ (PySem.F.args_set_iter_1 _))
  show wpAny B.M A.in1 (Builtin.Frozenset.sizeOf a >>= _) _ _ s
  refine wpAny_bind (sizeOf_can H ?_)
  refine wpAny_bind ?_
  unfold setDrawn
  refine wpAny_bind (wpAny_setState_of ho rfl (fits_can ts hl hm) ?_)
  refine wpAny_bind (byText_is (wpAny_pure ?_))
  have hdr : ∀ b : Bool, ¬ ((!b && (!(setTb l mask f mv led).plain && decide ((setEs l ts).size > 1))) = true) := fun b => by simp [setTb]
  refine wpAny_ite_split (fun hab => absurd hab (hdr _)) (fun _ => wpAny_bind (wpAny_pure ?_))
  refine wpAny_bind (wpAny_setEpoch_of ho rfl (fits_can ts hl hm) ?_)
  have e0 : slotT B l 0 = 0 := by unfold slotT slotOf; simp
  rw [e0] at h
  exact wpAny_bind (wpAny_newObj_type (wpAny_pure ⟨_, rfl, "set_iterator", _, ⟨_, Heap.get?_push_size _ rfl, rfl⟩, slot_si_next.lookup, h⟩))
end
end Mine

/- part QL -/
namespace Mine
open PySem PySem.W PySem.Calls PyProof.Rows

section
variable {B : Bs} {A : Around} {env : Env} {ρ : Vs} {δ δ' : Ds} {X Y : Wd B} {P : MV → Prop} {R : Bool → Prop} {i : Int} {l l' : List Nat}

theorem rep_can {m : Addr} {v : Value} (r : RepV B.C X.g (.set l) v) : ∃ a, v = .ref a ∧ CanAt B X.h a l := by
  obtain ⟨a, ts, ep, mask, f, mv, led, e, hg, hm, hd, hl⟩ := r
  exact ⟨a, e, ts, ep, mask, f, mv, led, X.sub _ _ hg, hm, hd, hl⟩
theorem rep_subs {v : Value} (r : RepV B.C X.g (.set l) v) : l ∈ subs := by
  obtain ⟨a, ts, ep, mask, f, mv, led, e, hg, hm, hd, hl⟩ := r
  exact hl
/-- a new set is told of from now on -/
theorem fix_set {h' : Heap} {tk : Nat} (hk : ∀ c o, X.h.get? c = some o → h'.get? c = some o) (H : CanAt B h' X.h.objs.size l) {tk0 : Nat} {Pm : MV → Prop} (h : Pm (.set l)) :
    ∃ X' tk', ({ St B X.h tk0 with heap := h', toks := tk } : Shared) = St B X'.h tk' ∧ Le ([] : List Addr) X X' ∧ ∃ m, Pm m ∧ RepV B.C X'.g m (.ref X.h.objs.size) := by
  obtain ⟨ts, ep, mask, f, mv, led, ho, hm, hd, hl⟩ := H
  have ho' : (X.more h' hk).h.get? X.h.objs.size = some (setO l ts ep mask f mv led) := ho
  have l₁ : Le [] X (X.more h' hk) := Wd.more_le X
  exact ⟨(X.more h' hk).fix _ _ ho' X.gsize, tk, rfl, l₁.fix (no_at_size _), .set l, h, _, ts, ep, mask, f, mv, led, rfl, Wd.fix_at _, hm, hd, hl⟩
theorem Bin.orS (h : P (.set (uni l l'))) : Bin B A .BitOr (.set l) (.set l') P := fun X u v ru rv tk => by
  obtain ⟨a, rfl, H⟩ := rep_can (m := 0) ru
  obtain ⟨b, rfl, H'⟩ := rep_can (m := 0) rv
  exact union_can (s := St B X.h tk) H H' fun h' hk H₁ => fix_set hk H₁ h
theorem Bin.andS (h : P (.set (itx l l'))) : Bin B A .BitAnd (.set l) (.set l') P := fun X u v ru rv tk => by
  obtain ⟨a, rfl, H⟩ := rep_can (m := 0) ru
  obtain ⟨b, rfl, H'⟩ := rep_can (m := 0) rv
  exact inter_can (s := St B X.h tk) H H' fun h' hk H₁ => fix_set hk H₁ h
theorem Bin.subS (h0 : l' ≠ []) (h : P (.set (dif l l'))) : Bin B A .Sub (.set l) (.set l') P := fun X u v ru rv tk => by
  obtain ⟨a, rfl, H⟩ := rep_can (m := 0) ru
  obtain ⟨b, rfl, H'⟩ := rep_can (m := 0) rv
  exact diff_can (s := St B X.h tk) H H' h0 fun h' hk H₁ => fix_set hk H₁ h
theorem Cmp.neS0 (hu : A.units < cLine) (h : R (!l.isEmpty)) : Cmp B A .NotEq (.set l) (.set []) R := fun X u v ru rv tk => by
  obtain ⟨a, rfl, H⟩ := rep_can (m := 0) ru
  obtain ⟨b, rfl, H'⟩ := rep_can (m := 0) rv
  exact ne_can (s := St B X.h tk) hu H H' ⟨X, tk, rfl, Le.refl _ _, _, h, rfl⟩
theorem Cmp.inS (h : R (l.any fun (x : Nat) => decide ((x : Int) = i))) : Cmp B A .In (.int i) (.set l) R := fun X u v ⟨t, e⟩ rv tk => by
  subst e
  obtain ⟨b, rfl, H'⟩ := rep_can (m := 0) rv
  exact wpAny_inSet_of (knd := intKind PG B.w) (k := i) (intKind_is _ _ _ _) rfl H'.setOf ⟨X, tk + 1, rfl, Le.refl _ _, _, h, rfl⟩
theorem set0 (h : P (.set [])) : Cq B A (.type "set") [] P := fun X us e tk => by
  cases e
  exact set_empty_call (s := St B X.h tk) (fix_set (tk := tk) (fun c o e => Heap.get?_push_of_some _ e) (fresh_can (Heap.get?_push_size _ rfl)) h)
theorem set_lst {ns : List Nat} {lf : List Nat} (hA : A.handled = none) (hU : ∀ n ∈ ns, n ∈ U5) (hlf : lf ∈ subs) (hfin : ∀ x ∈ U5, x ∈ lf ↔ x ∈ ns) (h : P (.set lf)) : Cq B A (.type "set") [.lst (ns.map fun (n : Nat) => .int (n : Int))] P := fun X us ⟨v, r, e, ⟨a, vs, n, e1, hg, rl⟩, e2⟩ tk => by
  subst e1 e2 e
  have hi : IntsAre vs (ns.map fun (n : Nat) => (n : Int)) := intsAre_of (by rw [List.map_map]; exact rl)
  exact init_list (s := St B X.h tk) hA ⟨_, X.sub _ _ hg, rfl, n, rfl⟩ hi hU hlf hfin fun h' tk' hk H => fix_set hk H h

theorem ord_rep {a : Addr} {ep : Nat} {ts : Nat → Tok} {C : Cx} {g : Gh} : ∃ p : List Nat, p.Perm l ∧ ∀ (i : Nat) (v : Value), (ordA B a ep l ts)[i]?.map (·.2) = some v → ∃ m', (p.map fun (n : Nat) => MV.int (n : Int))[i]? = some m' ∧ RepV C g m' v := by
  obtain ⟨p, hp, e⟩ := ordA_perm B a ep l ts
  refine ⟨p, hp, fun i v hv => ?_⟩
  rw [← Array.getElem?_toList, e, List.getElem?_map] at hv
  rw [List.getElem?_map]
  cases hq : p[i]? with
  | none => rw [hq] at hv; cases hv
  | some x => rw [hq] at hv; cases hv; exact ⟨_, rfl, _, rfl⟩
/-- what going over a set gives -/
noncomputable def AnyOrder (l : List Nat) (items : List MV) : Prop := ∃ p : List Nat, p.Perm l ∧ items = p.map fun (n : Nat) => MV.int (n : Int)
theorem It.set (hA : A.handled = none) : It B A δ (.set l) (AnyOrder l) := fun X v r H => by
  obtain ⟨a, ts, ep, mask, f, mv, led, e, hg, hm, hd, hl⟩ := r
  subst e
  have ho := X.sub _ _ hg
  have hne : a ≠ X.h.objs.size := Nat.ne_of_lt (Heap.lt_size ho)
  obtain ⟨p, hp, hP⟩ := ord_rep (B := B) (a := a) (ep := ep) (l := l) (ts := ts) (C := B.C) (g := X.g)
  have hlen : (p.map fun (n : Nat) => MV.int (n : Int)).length = l.length := by rw [List.length_map, hp.length_eq]
  refine It.mk (items := p.map fun (n : Nat) => MV.int (n : Int)) (oI := siO a l.length ep (slotT B l 0) 0) (fp := [X.h.objs.size, a]) (Pv := fun i v => (ordA B a ep l ts)[i]?.map (·.2) = some v)
    (S := fun i h => h.get? X.h.objs.size = some (siO a l.length ep (slotT B l i) i) ∧ h.get? a = some (setO l ts ep mask f mv led)) (fun tk Q E hq => iter_set (s := St B X.h tk) ho hm hd hl hq)
    (by rw [hlen]; exact Walks.set_ (ts := ts) (ep := ep) (mask := mask) (f := f) (mv := mv) (led := led) hA hne hm hd hl) ⟨Heap.get?_push_size _ rfl, Heap.get?_push_of_some _ ho⟩ (fun b hb => ?_) (fun i h st => ⟨_, st.1⟩) (fun i u _ hu => hP i u hu) ⟨p, hp, rfl⟩
  rcases List.mem_cons.mp hb with q | q
  · exact .inl q
  · rw [List.mem_singleton.mp q]; exact .inr ⟨_, hg⟩

theorem hint_set {s : Shared} {E : Value → Shared → Prop} {r : Addr} {Q : Bool → Shared → Prop} (hT : s.TypeIs (.ref r) "set") (h : Q false s) : wpAny B.M A (Builtin.List.listLengthHint (.ref r)) Q E s := by
  unfold Builtin.List.listLengthHint
  refine wpAny_bind (wpAny_specialOf hT PySem.F.slot_set_len.lookup ?_)
  generalize hid : ("set.__len__" : String) = id0
  wp_delta
  rw [show splitId id0 = some ("set", "__len__") from by subst hid; decide +kernel]
  subst hid
  refine wpAny_bind (wpAny_isInstance (T := "set") (b := true) hT (by rw [isSubtype_type]; kernel_rfl) ?_)
  refine wpAny_ite_split (fun hab => absurd hab (by decide)) (fun _ => ?_)
  refine wpAny_ite_split (fun _ => ?_) (fun hab => absurd (by decide +kernel) hab)
  refine wpAny_bind (wpAny_typeOf hT ?_)
  exact wpAny_pure h
theorem src_set {a : Addr} {ts : Nat → Tok} {ep mask f mv : Nat} {led : Bool} (hm : MaskOk mask) (hd : B.C.txt = false → led = true) (hl : l ∈ subs) :
    KdlSrc PG B.w "set" a a l.length (fun i v => (ordA B a ep l ts)[i]?.map (·.2) = some v) (fun h => h.get? a = some (setO l ts ep mask f mv led)) where
  type := fun _ ho => ⟨_, ho, rfl⟩
  there := fun _ ho => ⟨Heap.lt_size ho, Heap.lt_size ho⟩
  keep := fun _ _ ho hk => hk a (.inl rfl) _ ho
  notList := by decide
  notTuple := by decide
  hint := fun _ _ _ _ ho hq => hint_set ⟨_, ho, rfl⟩ hq
  iter := fun _ _ hh ho => ⟨_, _, (fun _ _ hq => iter_set ho hm hd hl hq), Walks.set_ hh (Nat.ne_of_lt (Heap.lt_size ho)) hm hd hl, ⟨Heap.get?_push_size _ rfl, Heap.get?_push_of_some _ ho⟩⟩
theorem items_rep {n : Nat} {acc : Array Value} {p : List Nat} {C : Cx} {g : Gh} {Pv : Nat → Value → Prop} (ha : ItemsOf Pv acc n) (hn : p.length = n) (hP : ∀ (i : Nat) (v : Value), Pv i v → ∃ m', (p.map fun (n : Nat) => MV.int (n : Int))[i]? = some m' ∧ RepV C g m' v) :
    RepL C g (p.map fun (n : Nat) => MV.int (n : Int)) acc.toList := by
  refine RepL.of_get (by rw [Array.length_toList, ha.1, List.length_map, hn]) fun i m v e1 e2 => ?_
  rw [Array.getElem?_toList] at e2
  obtain ⟨m', h1, h2⟩ := hP i v (ha.2 i v e2)
  rw [h1] at e1; cases e1; exact h2
theorem len_subs {h : l ∈ subs} : l.length ≤ sizeLine := by have := subs_len l h; rw [sizeLine_eq]; omega
theorem Cl.set (hA : A.handled = none) : Cl B A δ (.set l) (AnyOrder l) := fun X v r H tk => by
  obtain ⟨a, ts, ep, mask, f, mv, led, e, hg, hm, hd, hl⟩ := r
  subst e
  obtain ⟨p, hp, hP⟩ := ord_rep (B := B) (a := a) (ep := ep) (l := l) (ts := ts) (C := B.C) (g := X.g)
  exact kdu_collect (s := St B X.h tk) (src_set (ts := ts) (ep := ep) (mask := mask) (f := f) (mv := mv) (led := led) hm hd hl) hA (X.sub _ _ hg) (len_subs (h := hl)) fun h' tk' acc hk hacc =>
    ⟨X.more h' hk, tk', rfl, Wd.more_le X, _, ⟨p, hp, rfl⟩, items_rep hacc hp.length_eq hP⟩
theorem lst_set (hA : A.handled = none) (h : ∀ items, AnyOrder l items → P (.lst items)) : Cq B A (.type "list") [.set l] P := fun X us ⟨v, r, e, ⟨a, ts, ep, mask, f, mv, led, e1, hg, hm, hd, hl⟩, e2⟩ tk => by
  subst e1 e2 e
  obtain ⟨p, hp, hP⟩ := ord_rep (B := B) (a := a) (ep := ep) (l := l) (ts := ts) (C := B.C) (g := X.g)
  refine kdl_call (s := St B X.h tk) (src_set (ts := ts) (ep := ep) (mask := mask) (f := f) (mv := mv) (led := led) hm hd hl) hA (X.sub _ _ hg) (len_subs (h := hl)) fun h' tk' acc c' hk hD' hacc => ?_
  have hD2 : (X.more h' hk).h.get? X.h.objs.size = some (lstO acc.toList c') := by
    show h'.get? _ = some { cls := .type "list", data := .seq acc.toList.toArray c' }
    rw [Array.toArray_toList]; exact hD'
  have l₁ : Le [] X (X.more h' hk) := Wd.more_le X
  have l₂ : Le [] X ((X.more h' hk).fix _ _ hD2 X.gsize) := l₁.fix (no_at_size _)
  exact ⟨(X.more h' hk).fix _ _ hD2 X.gsize, tk', rfl, l₂, _, h _ ⟨p, hp, rfl⟩, _, acc.toList, c', rfl, Wd.fix_at _, RepL.mono (Wd.fix_g _) _ (items_rep hacc hp.length_eq hP)⟩
end
end Mine

/- part QM -/
namespace Mine
open PySem PySem.W PySem.Calls PyProof.Rows

section
variable {B : Bs} {A : Around} {E : Value → Shared → Prop} {s : Shared} {env : Env} {ρ : Vs} {δ δ' : Ds} {X Y : Wd B} {P : MV → Prop} {R : Bool → Prop} {i : Int} {l l' : List Nat} {Q : MV → Ds → Prop}
theorem inMain {Q : Bool → Shared → Prop} (hc : CodeAt B env.code) (hk : ∀ a o, B.hb.get? a = some o → s.heap.get? a = some o) (h : ∀ b, Q b s) : wpAny B.M A (inMainModule env) Q E s := by
  obtain ⟨c, o, vs, e, ho, hd⟩ := hc
  unfold inMainModule
  try dsimp only
  rw [e]
  split
  · exact wpAny_pure (h _)
  · refine wpAny_bind (wpAny_fieldsOf (hk _ _ ho) hd ?_)
    split
    · exact wpAny_bind (wpAny_askSetting (wpAny_pure (h _)))
    · exact wpAny_pure (h _)
theorem Ev.set1 {e : Expr} {pos : Pos} (hc : CodeAt B env.code) (O : EnvOk env) (he : starEach [e] env = [(false, eval e env)]) (h : Ev B A env (eval e env) ρ δ fun m δ' => ∃ x : Nat, x ∈ U5 ∧ m = .int (x : Int) ∧ Q (.set [x]) δ') :
    Ev B A env (eval (.Set [e] 0 pos) env) ρ δ Q := fun X I tk => by
  rw [arm_eval_Set]
  refine wpAny_bind (wpAny_standAt ?_)
  refine wpAny_bind (inMain hc X.keepsB fun b => ?_)
  rw [he]
  rw [show displayRoad 0 [e] = .oneByOne from rfl]
  unfold setDisplay
  rw [if_neg (by decide)]
  refine wpAny_bind (newSet_can (s := St B X.h tk) ?_)
  dsimp only
  let Y : Wd B := X.more (X.h.push (freshO B)) fun a x e => Heap.get?_push_of_some _ e
  have lY : Le [] X Y := Wd.more_le X
  have I₁ : Inv env ρ δ Y := I.here lY
  have hD0 : Y.h.get? X.h.objs.size = some (freshO B) := Heap.get?_push_size _ rfl
  have hDg : Y.g X.h.objs.size = none := X.gsize
  have hDf : X.h.objs.size ∉ foot env δ := fun q => by
    obtain ⟨o, ho⟩ := I.live O q
    rw [no_at_size] at ho; cases ho
  refine wpAny_bind (wpAny_holding ?_)
  show wpAny B.M A (evalAll [do let v ← eval e env; standAt pos; pure v] >>= _) _ _ (St B Y.h tk)
  unfold evalAll
  refine wpAny_bind (wpAny_bind (wpAny_bind ((h Y I₁).into fun v Z tk₁ l₁ ⟨m, δ', ⟨x, hx, em, q⟩, rv, I₂, n₂⟩ => ?_)))
  subst em
  obtain ⟨t, rfl⟩ := rv
  refine wpAny_bind (wpAny_standAt (wpAny_pure ?_))
  refine wpAny_bind (wpAny_holding (wpAny_pure (wpAny_pure ?_)))
  refine wpAny_bind (wpAny_holding ?_)
  have hDZ : Z.h.get? X.h.objs.size = some (freshO B) := l₁.keep _ _ hD0 fun q => hDf (dom_foot _ q)
  have hDZg : Z.g X.h.objs.size = none := (l₁.gh _ _ hD0).trans hDg
  refine wpAny_bind ?_
  rw [List.forIn_cons]
  refine wpAny_bind ?_
  refine wpAny_bind ?_
  unfold setAdd
  refine wpAny_holding ?_
  refine wpAny_bind ((intKind PG B.w).pyHash (k := (x : Int)) (intKind_is _ _ _ _) ?_)
  rw [show (intKind PG B.w).hash (x : Int) = (x : Int) from hash_U5 x hx]
  refine setAdd_can (s := St B Z.h (tk₁ + 1)) (fresh_can hDZ) hx fun h₂ r hs₂ H₂ => ?_
  have e1 : insN x [] = [x] := by
    have : ∀ x ∈ U5, insN x [] = [x] := by decide
    exact this x hx
  rw [e1] at H₂
  refine wpAny_pure ?_
  dsimp only
  rw [List.forIn_nil]
  refine wpAny_pure ?_
  rw [if_neg (by decide)]
  refine wpAny_pure ?_
  show wpAny B.M A (forIn ([] : List (Bool × Sem Value)) PUnit.unit _ >>= _) _ _ _
  rw [List.forIn_nil]
  refine wpAny_bind (wpAny_pure ?_)
  obtain ⟨ts, ep, mask, f, mv, led, ho, hm, hd, hl⟩ := H₂
  have hk : ∀ a o, Z.h.get? a = some o → a ∉ [X.h.objs.size] → h₂.get? a = some o := fun a o e n => (hs₂.2 a fun q => n (List.mem_singleton.mpr q)).trans e
  have D0 : ∀ a ∈ [X.h.objs.size], Z.g a = none := fun a h => by rw [List.mem_singleton.mp h]; exact hDZg
  have hDδ : X.h.objs.size ∉ foot env δ' := foot_live (Q' := True) ⟨_, hD0⟩ n₂ hDf
  have ho' : (Z.to h₂ [X.h.objs.size] hk D0).h.get? X.h.objs.size = some (setO [x] ts ep mask f mv led) := ho
  have lXZ : Le (dom δ) X Z := (lY.mono fun _ h => nomatch h).trans l₁ fun _ h => .inl h
  have nX : NewDom X δ δ' := (NewDom.refl X δ).trans lY n₂
  exact wpAny_pure (wpAny_pure ⟨(Z.to h₂ [X.h.objs.size] hk D0).fix _ _ ho' hDZg, tk₁ + 1, rfl, (lXZ.off hk D0 (no_at_size _)).fix (no_at_size _), .set [x], δ', q, ⟨_, ts, ep, mask, f, mv, led, rfl, Wd.fix_at _, hm, hd, hl⟩, (I₂.to hk D0 hDδ).fix hDδ, nX⟩)
end
end Mine

/- part QN -/
namespace Mine
open PySem PySem.W PySem.Calls PyProof.Rows

section
variable {prog : Program} {w : World} {A : Around} {E : Value → Shared → Prop} {s : Shared}
theorem tupIter_item {it l : Addr} {i : Nat} {items} {x : Value} {Q : Value → Shared → Prop} (hit : s.heap.IsTupleIter it l i) (hl : s.heap.IsTuple l items) (hx : items[i]? = some x)
    (hQ : ∀ h', h'.IsTupleIter it l (i + 1) → Heap.SameBut it s.heap h' → Q x { s with heap := h' }) : wpAny (model prog w) A (Builtin.SmallTypes.nextOf (.ref it)) Q E s := by
  obtain ⟨o, ho, hc, hd⟩ := id hit
  obtain ⟨ol, hol, _, nl, hdl⟩ := hl
  unfold Builtin.SmallTypes.nextOf
  refine wpAny_bind (wpAny_callSpecial?_slot (name := Str.ofString "__next__") hit.typeIs PySem.F.slot_tuple_iterator_next
    (wpAny_call_entry PySem.F.slot_tuple_iterator_next hit.typeIs PySem.F.entry_tuple_iterator_next ?_ (PySem.F.args_tuple_iterator_next_1 _)))
  show wpAny _ _ (field (.ref it) 0 >>= _) _ _ s
  refine wpAny_bind (wpAny_field ho hd (x := .ref l) rfl ?_)
  show wpAny _ _ (if (Value.ref l == Value.none) = true then _ else _) _ _ s
  rw [if_neg (show ¬ ((Value.ref l == Value.none) = true) from Bool.false_ne_true)]
  show wpAny _ _ (field (.ref it) 1 >>= _) _ _ s
  refine wpAny_bind (wpAny_field ho hd (x := .int i 0) rfl ?_)
  show wpAny _ _ (seqItems? (.ref l) >>= _) _ _ s
  refine wpAny_bind (wpAny_seqItems hol hdl ?_)
  simp only [Int.toNat_natCast, hx]
  refine wpAny_bind (wpAny_setField ho hd (by simp) (wpAny_pure ⟨x, rfl, wpAny_pure (hQ _ ?_ (Heap.SameBut.update ..))⟩))
  exact ⟨_, Heap.get?_update_self _ ho (Obj.isFreed_of_fields (Obj.data_mapFields hd _)), (Obj.cls_mapFields ..).trans hc, by
    rw [Obj.data_mapFields hd]; simp [rawInt]⟩
theorem tupIter_end {it l : Addr} {i : Nat} {items} {Q : Value → Shared → Prop} (hh : A.handled = none) (hit : s.heap.IsTupleIter it l i) (hl : s.heap.IsTuple l items) (hx : items[i]? = none)
    (hE : ∀ h' e, Heap.ExtBut it s.heap h' → (∃ o, h'.get? e = some o ∧ o.cls = .type "StopIteration") → E (.ref e) { s with heap := h' }) : wpAny (model prog w) A (Builtin.SmallTypes.nextOf (.ref it)) Q E s := by
  obtain ⟨o, ho, hc, hd⟩ := id hit
  obtain ⟨ol, hol, _, nl, hdl⟩ := hl
  unfold Builtin.SmallTypes.nextOf
  refine wpAny_bind (wpAny_callSpecial?_slot (name := Str.ofString "__next__") hit.typeIs PySem.F.slot_tuple_iterator_next
    (wpAny_call_entry PySem.F.slot_tuple_iterator_next hit.typeIs PySem.F.entry_tuple_iterator_next ?_ (PySem.F.args_tuple_iterator_next_1 _)))
  show wpAny _ _ (field (.ref it) 0 >>= _) _ _ s
  refine wpAny_bind (wpAny_field ho hd (x := .ref l) rfl ?_)
  show wpAny _ _ (if (Value.ref l == Value.none) = true then _ else _) _ _ s
  rw [if_neg (show ¬ ((Value.ref l == Value.none) = true) from Bool.false_ne_true)]
  show wpAny _ _ (field (.ref it) 1 >>= _) _ _ s
  refine wpAny_bind (wpAny_field ho hd (x := .int i 0) rfl ?_)
  show wpAny _ _ (seqItems? (.ref l) >>= _) _ _ s
  refine wpAny_bind (wpAny_seqItems hol hdl ?_)
  simp only [Int.toNat_natCast, hx]
  refine wpAny_bind (wpAny_rule (wpAny_bind (wpAny_setField ho hd (by simp) ?_)))
  show wpAny _ _ (newExc (.type "StopIteration") [] >>= _) _ _ _
  refine wpAny_bind ?_
  simp only [newExc, newTuple]
  refine wpAny_bind (wpAny_newObj_type ?_ (by size_fits))
  refine wpAny_bind (m := firstArgMember _ _) (wpAny_of_eq (a := Value.none) (by first | rfl | (simp only [firstArgMember]; rfl)) ?_)
  refine wpAny_newObj_type ?_ (by size_fits)
  simp only [raiseNew]
  refine wpAny_bind (wpAny_handled ?_)
  first | rw [show A.in1.handled = none from hh] | rw [hh]
  refine wpAny_bind (wpAny_pure (wpAny_throw ?_))
  exact hE _ _ (((Heap.SameBut.update ..).extBut.push _).push _) ⟨_, Heap.get?_push_size _ rfl, rfl⟩

/-- a zip over two tuples, as it lies -/
structure ZS (h : Heap) (z TI TO i1 i2 t1 t2 : Addr) (xs ys : Array Value) (f0 : Value) (k : Nat) : Prop where
  z : IsZip h z TI TO f0
  ti : IsPair h TI (.ref i1) (.ref i2)
  to : ∃ a b, IsPair h TO a b
  i1 : h.IsTupleIter i1 t1 k
  i2 : h.IsTupleIter i2 t2 k
  t1 : h.IsTuple t1 xs
  t2 : h.IsTuple t2 ys
theorem zipT_item {z TI TO i1 i2 l1 l2 : Addr} {k : Nat} {xs ys : Array Value} {x y : Value} {Q : Option Value → Shared → Prop} (D : ZipApart z TI TO i1 i2 l1 l2) (H : ZS s.heap z TI TO i1 i2 l1 l2 xs ys .none k) (hx : xs[k]? = some x) (hy : ys[k]? = some y)
    (hQ : ∀ h', ZS h' z TI TO i1 i2 l1 l2 xs ys (rawInt s.heap.objs.size) (k + 1) → IsPair h' s.heap.objs.size x y → (∀ c o, c ≠ z → c ≠ TO → c ≠ i1 → c ≠ i2 → s.heap.get? c = some o → h'.get? c = some o) → Q (some (.ref s.heap.objs.size)) { s with heap := h' }) :
    wpAny (model prog w) A (pyNext (.ref z)) Q E s := by
  obtain ⟨hz, hTI, ⟨a, b, hTO⟩, h1, h2, hl1, hl2⟩ := H
  have hT : s.TypeIs (.ref z) "zip" := ⟨_, hz, rfl⟩
  unfold pyNext
  refine wpAny_bind (wpAny_attempt (wpAny_callSpecial?_slot (name := Str.ofString "__next__") hT PySem.F.slot_zip_next (wpAny_call_entry PySem.F.slot_zip_next hT PySem.F.entry_zip_next ?_ (PySem.F.args_zip_next_1 _))))
  show wpAny _ _ (field (.ref z) 2 >>= _) _ _ _
  refine wpAny_bind (wpAny_field hz rfl (x := .bool false) rfl ?_)
  show wpAny _ _ (field (.ref z) 3 >>= _) _ _ _
  refine wpAny_bind (wpAny_field hz rfl (x := .ref TI) rfl ?_)
  refine wpAny_bind (wpAny_seqItems hTI rfl ?_)
  show wpAny _ _ (Builtin.SmallTypes.ownedTupleIsFree (.ref z) >>= _) _ _ _
  refine wpAny_bind ?_
  unfold Builtin.SmallTypes.ownedTupleIsFree
  refine wpAny_bind (wpAny_field hz rfl (x := .none) rfl (wpAny_pure ?_))
  simp only [if_true]
  refine wpAny_bind (wpAny_rule ?_)
  refine wpAny_bind (wpAny_field hz rfl (x := .ref TO) rfl ?_)
  refine wpAny_bind (wpAny_setField_rec hz (by simp) fun h₁ hz₁ hs₁ => ?_)
  replace hz₁ : IsZip h₁ z TI TO .ellipsis := hz₁
  refine wpAny_bind ?_
  simp only [List.zipIdx_cons, List.zipIdx_nil, List.forIn_cons, List.forIn_nil]
  refine wpAny_bind (wpAny_bind (wpAny_onRaise ?_))
  show wpAny _ _ (Builtin.SmallTypes.nextOf (.ref i1) >>= _) _ _ _
  have it1 : h₁.IsTupleIter i1 l1 k := h1.at fun o e => hs₁.extBut _ _ D.i1z e
  have tl1 : h₁.IsTuple l1 xs := hl1.at fun o e => hs₁.extBut _ _ D.l1z e
  refine wpAny_bind (tupIter_item it1 tl1 hx fun h₂ h1₂ hs₂ => wpAny_pure ?_)
  have hTO₂ : IsPair h₂ TO a b := hs₂.extBut _ _ D.TOi1 (hs₁.extBut _ _ D.TOz hTO)
  refine wpAny_bind (wpAny_seqItems hTO₂ rfl ?_)
  refine wpAny_bind (wpAny_updateSeq_pair hTO₂ fun h₃ hTO₃ hs₃ => ?_)
  replace hTO₃ : IsPair h₃ TO x b := hTO₃
  refine wpAny_bind (wpAny_letGo (wpAny_pure ?_))
  refine wpAny_bind (wpAny_bind (wpAny_onRaise ?_))
  show wpAny _ _ (Builtin.SmallTypes.nextOf (.ref i2) >>= _) _ _ _
  have k3 : ∀ c o, c ≠ z → c ≠ i1 → c ≠ TO → s.heap.get? c = some o → h₃.get? c = some o := fun c o n1 n2 n3 e => hs₃.extBut _ _ n3 (hs₂.extBut _ _ n2 (hs₁.extBut _ _ n1 e))
  refine wpAny_bind (tupIter_item (h2.at fun o e => k3 _ o D.i2z D.i12.symm D.TOi2.symm e) (hl2.at fun o e => k3 _ o D.l2z D.l2i1 D.l2TO e) hy fun h₄ h2₄ hs₄ => wpAny_pure ?_)
  have hTO₄ : IsPair h₄ TO x b := hs₄.extBut _ _ D.TOi2 hTO₃
  refine wpAny_bind (wpAny_seqItems hTO₄ rfl ?_)
  refine wpAny_bind (wpAny_updateSeq_pair hTO₄ fun h₅ hTO₅ hs₅ => ?_)
  replace hTO₅ : IsPair h₅ TO x y := hTO₅
  refine wpAny_bind (wpAny_letGo (wpAny_pure (wpAny_pure ?_)))
  refine wpAny_bind (wpAny_seqItems hTO₅ rfl ?_)
  refine wpAny_bind (wpAny_newTuple ?_)
  have hsz : h₅.objs.size = s.heap.objs.size := by rw [hs₅.1, hs₄.1, hs₃.1, hs₂.1, hs₁.1]
  have hz₅ : IsZip h₅ z TI TO .ellipsis := hs₅.extBut _ _ D.TOz.symm (hs₄.extBut _ _ D.i2z.symm (hs₃.extBut _ _ D.TOz.symm (hs₂.extBut _ _ D.i1z.symm hz₁)))
  have k5 : ∀ c o, c ≠ z → c ≠ TO → c ≠ i1 → c ≠ i2 → s.heap.get? c = some o → h₅.get? c = some o := fun c o c1 c2 c3 c4 e => hs₅.extBut _ _ c2 (hs₄.extBut _ _ c4 (k3 c o c1 c3 c2 e))
  have h1₅ : h₅.IsTupleIter i1 l1 (k + 1) := h1₂.at fun o e => hs₅.extBut _ _ D.TOi1.symm (hs₄.extBut _ _ D.i12 (hs₃.extBut _ _ D.TOi1.symm e))
  have h2₅ : h₅.IsTupleIter i2 l2 (k + 1) := h2₄.at fun o e => hs₅.extBut _ _ D.TOi2.symm e
  have hzlt : z < h₅.objs.size := Heap.lt_size hz₅
  show wpAny _ _ (Builtin.SmallTypes.ownedTupleHandOut (.ref z) (.ref h₅.objs.size) >>= _) _ _ _
  refine wpAny_bind ?_
  unfold Builtin.SmallTypes.ownedTupleHandOut
  have hz₆ : IsZip (h₅.push { cls := .type "tuple", data := .seq #[x, y] }) z TI TO .ellipsis := Heap.get?_push_of_some _ hz₅
  refine wpAny_bind (wpAny_setField_rec hz₆ (by simp) fun h₇ hz₇ hs₇ => ?_)
  replace hz₇ : IsZip h₇ z TI TO (rawInt h₅.objs.size) := hz₇
  refine wpAny_setField_rec hz₇ (by simp) fun h₈ hz₈ hs₈ => ?_
  replace hz₈ : IsZip h₈ z TI TO (rawInt h₅.objs.size) := hz₈
  have up : ∀ c o, c ≠ z → h₅.get? c = some o → h₈.get? c = some o := fun c o c1 e => hs₈.extBut _ _ c1 (hs₇.extBut _ _ c1 (Heap.get?_push_of_some _ e))
  have hT₈ : IsPair h₈ h₅.objs.size x y := hs₈.extBut _ _ (Nat.ne_of_gt hzlt) (hs₇.extBut _ _ (Nat.ne_of_gt hzlt) (Heap.get?_push_size _ rfl))
  rw [hsz] at hz₈ hT₈
  refine wpAny_pure ⟨.ref h₅.objs.size, rfl, ?_⟩
  rw [hsz]
  refine wpAny_pure (hQ h₈ ⟨hz₈, up _ _ D.TIz (k5 _ _ D.TIz D.TITO D.TIi1 D.TIi2 hTI), ⟨_, _, up _ _ D.TOz hTO₅⟩, h1₅.at fun o e => up _ o D.i1z e, h2₅.at fun o e => up _ o D.i2z e,
    hl1.at fun o e => up _ o D.l1z (k5 _ o D.l1z D.l1TO D.l1i1 D.l1i2 e), hl2.at fun o e => up _ o D.l2z (k5 _ o D.l2z D.l2TO D.l2i1 D.l2i2 e)⟩ hT₈ fun c o c1 c2 c3 c4 e => up c o c1 (k5 c o c1 c2 c3 c4 e))
theorem zipT_end {z TI TO i1 i2 l1 l2 : Addr} {k : Nat} {xs ys : Array Value} {Q : Option Value → Shared → Prop} (hh : A.handled = none) (D : ZipApart z TI TO i1 i2 l1 l2) (H : ZS s.heap z TI TO i1 i2 l1 l2 xs ys .none k) (hx : xs[k]? = none)
    (hQ : ∀ h', (∀ c o, c ≠ z → c ≠ TO → c ≠ i1 → c ≠ i2 → s.heap.get? c = some o → h'.get? c = some o) → Q none { s with heap := h' }) : wpAny (model prog w) A (pyNext (.ref z)) Q E s := by
  obtain ⟨hz, hTI, ⟨a, b, hTO⟩, h1, h2, hl1, hl2⟩ := H
  have hT : s.TypeIs (.ref z) "zip" := ⟨_, hz, rfl⟩
  unfold pyNext
  refine wpAny_bind (wpAny_attempt (wpAny_callSpecial?_slot (name := Str.ofString "__next__") hT PySem.F.slot_zip_next (wpAny_call_entry PySem.F.slot_zip_next hT PySem.F.entry_zip_next ?_ (PySem.F.args_zip_next_1 _))))
  show wpAny _ _ (field (.ref z) 2 >>= _) _ _ _
  refine wpAny_bind (wpAny_field hz rfl (x := .bool false) rfl ?_)
  show wpAny _ _ (field (.ref z) 3 >>= _) _ _ _
  refine wpAny_bind (wpAny_field hz rfl (x := .ref TI) rfl ?_)
  refine wpAny_bind (wpAny_seqItems hTI rfl ?_)
  show wpAny _ _ (Builtin.SmallTypes.ownedTupleIsFree (.ref z) >>= _) _ _ _
  refine wpAny_bind ?_
  unfold Builtin.SmallTypes.ownedTupleIsFree
  refine wpAny_bind (wpAny_field hz rfl (x := .none) rfl (wpAny_pure ?_))
  simp only [if_true]
  refine wpAny_bind (wpAny_rule ?_)
  refine wpAny_bind (wpAny_field hz rfl (x := .ref TO) rfl ?_)
  refine wpAny_bind (wpAny_setField_rec hz (by simp) fun h₁ hz₁ hs₁ => ?_)
  replace hz₁ : IsZip h₁ z TI TO .ellipsis := hz₁
  refine wpAny_bind ?_
  simp only [List.zipIdx_cons, List.zipIdx_nil, List.forIn_cons, List.forIn_nil]
  refine wpAny_bind (wpAny_bind (wpAny_onRaise ?_))
  show wpAny _ _ (Builtin.SmallTypes.nextOf (.ref i1) >>= _) _ _ _
  have it1 : h₁.IsTupleIter i1 l1 k := h1.at fun o e => hs₁.extBut _ _ D.i1z e
  have tl1 : h₁.IsTuple l1 xs := hl1.at fun o e => hs₁.extBut _ _ D.l1z e
  refine wpAny_bind (tupIter_end hh it1 tl1 hx fun h₂ e hs₂ he => ?_)
  obtain ⟨oe, hoe, hce⟩ := he
  have hz₂ : IsZip h₂ z TI TO .ellipsis := hs₂ _ _ D.i1z.symm hz₁
  have hez : e ≠ z := fun x => by subst x; rw [hz₂] at hoe; cases hoe; simp at hce
  refine wpAny_setField_rec hz₂ (by simp) fun h₃ _ hs₃ => ?_
  refine wpAny_bind (wpAny_isInstance (T := "StopIteration") (b := true) ⟨oe, hs₃.extBut _ _ hez hoe, hce⟩ isSubtype_stop ?_)
  exact wpAny_pure (hQ _ fun c o c1 _ c3 _ x => hs₃.extBut _ _ c1 (hs₂ _ _ c3 (hs₁.extBut _ _ c1 x)))
end
end Mine

/- part QO -/
namespace Mine
open PySem PySem.W PySem.Calls PyProof.Rows

noncomputable abbrev tzA (h : Heap) (l1 : Addr) : Heap := h.push { cls := .type "tuple_iterator", data := .fields #[.ref l1, .int 0 0] }
noncomputable abbrev tzB (h : Heap) (l1 l2 : Addr) : Heap := (tzA h l1).push { cls := .type "tuple_iterator", data := .fields #[.ref l2, .int 0 0] }
noncomputable abbrev tzC (h : Heap) (l1 l2 : Addr) : Heap := (tzB h l1 l2).push { cls := .type "tuple", data := .seq #[.ref h.objs.size, .ref (tzA h l1).objs.size] }
noncomputable abbrev tzD (h : Heap) (l1 l2 : Addr) : Heap := (tzC h l1 l2).push { cls := .type "tuple", data := .seq #[.none, .none] }
noncomputable abbrev tzE (h : Heap) (l1 l2 : Addr) : Heap := (tzD h l1 l2).push { cls := .type "zip", data := .fields #[.none, .bool false, .bool false, .ref (tzB h l1 l2).objs.size, .ref (tzC h l1 l2).objs.size] }
set_option maxHeartbeats 4000000 in
theorem zipT_new (l1 l2 : Addr) (xs ys : Array Value) :
    Meets (Builtin.«zip.__new__» ⟨[.type "zip", .ref l1, .ref l2], []⟩) (fun _ R s => s.heap.IsTuple l1 xs ∧ s.heap.IsTuple l2 ys ∧ R (.ok (.ret (.ref (tzD s.heap l1 l2).objs.size))) { s with heap := tzE s.heap l1 l2 }) :=
  .of_wp fun prog w A R s h => by
    obtain ⟨hp, g, d, tk, os⟩ := s; obtain ⟨hl1, hl2, h⟩ := h
    have hsub := sub_zip
    have hL1 : Heap.IsTuple (Shared.heap ⟨hp, g, d, tk, os⟩) l1 xs := hl1
    have hL2 : Heap.IsTuple (Shared.heap ⟨hp.push { cls := .type "tuple_iterator", data := .fields #[.ref l1, .int 0 0] }, g, d, tk, os⟩) l2 ys := hl2.push _
    wp_walk using wpAny_pyIter_tuple hL1, wpAny_pyIter_tuple hL2
    exact ⟨_, rfl, h⟩
section
variable {prog : Program} {w : World} {A : Around} {E : Value → Shared → Prop} {s : Shared}
theorem zipT_call {l1 l2 : Addr} {xs ys : Array Value} {Q : Value → Shared → Prop} (hl1 : s.heap.IsTuple l1 xs) (hl2 : s.heap.IsTuple l2 ys)
    (h : ∀ h', ZS h' (s.heap.objs.size + 4) (s.heap.objs.size + 2) (s.heap.objs.size + 3) s.heap.objs.size (s.heap.objs.size + 1) l1 l2 xs ys .none 0 →
      (∀ c o, s.heap.get? c = some o → h'.get? c = some o) → Q (.ref (s.heap.objs.size + 4)) { s with heap := h' }) :
    wpAny (model prog w) A (call (.type "zip") [.ref l1, .ref l2]) Q E s := by
  refine callType_new PySem.F.called_zip (by decide) (PySem.F.typeCall_zip_2 _ _) (PySem.F.newCall_zip_2 _ _) (fun obj => PySem.F.args_object_init_3 obj _ _) PySem.F.entry_zip_new
    (zipT_new l1 l2 xs ys) ⟨hl1, hl2, ?_⟩
  have z1 : (tzA s.heap l1).objs.size = s.heap.objs.size + 1 := Heap.size_push ..
  have z2 : (tzB s.heap l1 l2).objs.size = s.heap.objs.size + 2 := by rw [Heap.size_push, z1]
  have z3 : (tzC s.heap l1 l2).objs.size = s.heap.objs.size + 3 := by rw [Heap.size_push, z2]
  have z4 : (tzD s.heap l1 l2).objs.size = s.heap.objs.size + 4 := by rw [Heap.size_push, z3]
  have g5 : (tzE s.heap l1 l2).get? (tzD s.heap l1 l2).objs.size = some _ := Heap.get?_push_size _ rfl
  have g4 : (tzE s.heap l1 l2).get? (tzC s.heap l1 l2).objs.size = some _ := Heap.get?_push_of_some _ (Heap.get?_push_size _ rfl)
  have g3 : (tzE s.heap l1 l2).get? (tzB s.heap l1 l2).objs.size = some _ := Heap.get?_push_of_some _ (Heap.get?_push_of_some _ (Heap.get?_push_size _ rfl))
  have g2 : (tzE s.heap l1 l2).get? (tzA s.heap l1).objs.size = some _ := Heap.get?_push_of_some _ (Heap.get?_push_of_some _ (Heap.get?_push_of_some _ (Heap.get?_push_size _ rfl)))
  have g1 : (tzE s.heap l1 l2).get? s.heap.objs.size = some _ := Heap.get?_push_of_some _ (Heap.get?_push_of_some _ (Heap.get?_push_of_some _ (Heap.get?_push_of_some _ (Heap.get?_push_size _ rfl))))
  have hk : ∀ c o, s.heap.get? c = some o → (tzE s.heap l1 l2).get? c = some o := fun c o x =>
    Heap.get?_push_of_some _ (Heap.get?_push_of_some _ (Heap.get?_push_of_some _ (Heap.get?_push_of_some _ (Heap.get?_push_of_some _ x))))
  show _ ∧ _
  rw [z2, z3, z4] at g5
  rw [z1, z2] at g3
  rw [z3] at g4
  rw [z1] at g2
  rw [z4]
  exact ⟨⟨_, g5, rfl⟩, h _ ⟨g5, g3, ⟨_, _, g4⟩, ⟨_, g1, rfl, rfl⟩, ⟨_, g2, rfl, rfl⟩, hl1.at fun o e => hk _ o e, hl2.at fun o e => hk _ o e⟩ hk⟩
end
end Mine

/- part QP -/
namespace Mine
open PySem PySem.W PySem.Calls PyProof.Rows

theorem ZS.keep {h h' : Heap} {z TI TO i1 i2 t1 t2 : Addr} {xs ys : Array Value} {f0 : Value} {k : Nat} (H : ZS h z TI TO i1 i2 t1 t2 xs ys f0 k) (hk : ∀ a ∈ [z, TI, TO, i1, i2, t1, t2], ∀ o, h.get? a = some o → h'.get? a = some o) : ZS h' z TI TO i1 i2 t1 t2 xs ys f0 k := by
  obtain ⟨a1, a2, ⟨a, b, a3⟩, a4, a5, a6, a7⟩ := H
  exact ⟨hk z (by simp) _ a1, hk TI (by simp) _ a2, ⟨a, b, hk TO (by simp) _ a3⟩, a4.at fun o e => hk i1 (by simp) o e, a5.at fun o e => hk i2 (by simp) o e, a6.at fun o e => hk t1 (by simp) o e, a7.at fun o e => hk t2 (by simp) o e⟩
theorem ZS.live {h : Heap} {z TI TO i1 i2 t1 t2 : Addr} {xs ys : Array Value} {f0 : Value} {k : Nat} (H : ZS h z TI TO i1 i2 t1 t2 xs ys f0 k) : ∀ a ∈ [z, TI, TO, i1, i2], ∃ o, h.get? a = some o := by
  obtain ⟨a1, a2, ⟨a, b, a3⟩, ⟨o4, a4, _⟩, ⟨o5, a5, _⟩, a6, a7⟩ := H
  intro c hc
  simp only [List.mem_cons, List.not_mem_nil, or_false] at hc
  rcases hc with rfl | rfl | rfl | rfl | rfl
  · exact ⟨_, a1⟩
  · exact ⟨_, a2⟩
  · exact ⟨_, a3⟩
  · exact ⟨_, a4⟩
  · exact ⟨_, a5⟩

theorem zapart (N a1 a2 : Nat) (h1 : a1 < N) (h2 : a2 < N) : ZipApart (N + 4) (N + 2) (N + 3) N (N + 1) a1 a2 := by
  constructor <;> (intro (q : @Eq Nat _ _); omega)
theorem zw (N a : Nat) (h : a < N) : a ∉ [N + 4, N + 2, N + 3, N, N + 1] := by
  simp only [List.mem_cons, List.not_mem_nil, or_false, not_or]
  omega
noncomputable def ForOk2 (B : Bs) (A : Around) (env : Env) (body : List Stmt) (x y : Str) (Q : MF → Vs → Ds → Prop) : List (MV × MV) → Vs → Ds → Prop
  | [], ρ, δ => Q .next ρ δ
  | m :: ms, ρ, δ => Ex B A env (execs body env) (setv (setv ρ x m.1) y m.2) δ fun f ρ' δ' => match f with
    | .next => ForOk2 B A env body x y Q ms ρ' δ'
    | .cont => ForOk2 B A env body x y Q ms ρ' δ'
    | .brk => Q .next ρ' δ'
    | .ret v => Q (.ret v) ρ' δ'

section
variable {B : Bs} {A : Around} {env : Env} {ρ : Vs} {δ δ' : Ds} {Q : MF → Vs → Ds → Prop} {X Y : Wd B}
theorem Inv.toL {W : List Addr} {h₁ : Heap} (I : Inv env ρ δ X) (hk : ∀ a o, X.h.get? a = some o → a ∉ W → h₁.get? a = some o) (hD : ∀ a ∈ W, X.g a = none) (hJ : ∀ a ∈ W, a ∉ foot env δ) : Inv env ρ δ (X.to h₁ W hk hD) := by
  have nJ : ∀ a ∈ foot env δ, a ∉ W := fun a h q => hJ a q h
  refine ⟨fun y n e => ?_, ?_, fun y c hc => ?_, ⟨fun p hp => ?_, I.dicts.nodup⟩⟩
  · obtain ⟨w, hw, rw'⟩ := I.vars y n e
    refine ⟨w, hw.keep ?_, rw'⟩
    rintro a o (rfl | ⟨z, hz⟩) q
    · exact hk _ _ q (nJ _ List.mem_cons_self)
    · exact hk _ _ q (nJ _ (List.mem_cons_of_mem _ (List.mem_append_left _ (List.mem_map.mpr ⟨(z, a), mem_of_lookup hz, rfl⟩))))
  · obtain ⟨a, b, m, hm⟩ := I.loc
    exact ⟨a, b, m, hm.at' fun o q => hk _ _ q (nJ _ List.mem_cons_self)⟩
  · obtain ⟨a, b, w, o, ho, hd⟩ := I.cells y c hc
    exact ⟨a, b, w, o, hk _ _ ho (nJ _ (List.mem_cons_of_mem _ (List.mem_append_left _ (List.mem_map.mpr ⟨(y, c), mem_of_lookup hc, rfl⟩)))), hd⟩
  · obtain ⟨a, b, c⟩ := I.dicts.at_ p hp
    refine ⟨?_, b, c⟩
    have hn := nJ _ (dom_foot _ (List.mem_map_of_mem hp))
    cases hd : p.2 <;> (rw [hd] at a; obtain ⟨kvs, ⟨o, es, ep, ho, r⟩, q⟩ := a; exact ⟨kvs, ⟨o, es, ep, hk _ _ ho hn, r⟩, q⟩)
theorem Le.offL {D W : List Addr} {h₁ : Heap} (l : Le D X Y) (hk : ∀ a o, Y.h.get? a = some o → a ∉ W → h₁.get? a = some o) (hD : ∀ a ∈ W, Y.g a = none) (hJ : ∀ a ∈ W, X.h.get? a = none) : Le D X (Y.to h₁ W hk hD) := by
  have ne : ∀ a o, X.h.get? a = some o → a ∉ W := fun a o e q => by rw [hJ a q] at e; cases e
  exact ⟨fun a o e => let ⟨o', e'⟩ := l.live a o e; ⟨o', hk a o' e' (ne a o e)⟩, fun a o e n => hk a o (l.keep a o e n) (ne a o e), l.gh⟩
theorem assignTupV {elts : List Expr} {k : Nat} {tp : Pos} {xs : List Str} {ms : List MV} {v : Value} (O : EnvOk env) (hA : A.handled = none) (ht : tgts elts = some xs) (hx : ∀ x ∈ xs, May env x) (hl : ms.length = xs.length) (I : Inv env ρ δ X) (r : RepV B.C X.g (.tup ms) v) :
    Rn B A (foot env δ) (PySem.assign (.Tuple elts k tp) env v) X (fun _ Y => Inv env (setvs ρ xs ms) δ Y ∧ Y.g = X.g) := fun tk => by
  obtain ⟨h1, h2, h3⟩ := tgts_each (env := env) ht
  show wpAny _ A (do standAt tp; unpack v (assignEach elts env)) _ _ _
  refine wpAny_bind (wpAny_standAt ?_)
  unfold unpack
  rw [h2]
  refine wpAny_bind (wpAny_holding ?_)
  have hlen : (assignEach elts env).length = ms.length := by rw [List.length_map] at h1; rw [h1, hl]
  rw [hlen]
  refine (unpackTup hA r).into fun vs Z tk₂ l₂ ⟨rl, hg⟩ => ?_
  have SV := storeVars (B := B) (A := A) O xs ((assignEach elts env).map (·.2)) ms vs h1 (fun i x t e1 e2 v s Q E w => by
    obtain ⟨p, rfl⟩ := h3 i x t e1 e2
    exact wpAny_assign_Name w) hx hl.symm (I.here l₂) rl
  exact SV.into fun _ W tk₃ l₃ ⟨I₃, e₃⟩ => ⟨W, _, rfl, (l₂.mono fun _ h => nomatch h).trans l₃ (fun a h => .inl h), I₃, e₃.trans hg⟩

noncomputable abbrev FzI (B : Bs) (A : Around) (env : Env) (body : List Stmt) (x y : Str) (Q : MF → Vs → Ds → Prop) (t1 t2 : List MV) (xs ys : List Value) (a1 a2 N : Addr) (W : List Addr) (δ : Ds) (X Y : Wd B) : Nat → Shared → Prop := fun n s' => ∃ i V ρ' δ' tk', s' = St B V.h tk' ∧ n = t1.length - i ∧ i ≤ t1.length ∧ ZS V.h (N + 4) (N + 2) (N + 3) N (N + 1) a1 a2 xs.toArray ys.toArray .none i ∧ Inv env ρ' δ' V ∧ Le (foot env δ) X V ∧ NewDom X δ δ' ∧
      (∀ a o, Y.g a = some o → V.g a = some o) ∧ (∀ a ∈ W, a ∉ foot env δ') ∧ (∀ a ∈ W, V.g a = none) ∧ ForOk2 B A env body x y Q ((t1.zip t2).drop i) ρ' δ'
theorem Ex.forZip {x y : Str} {xp yp tp p cpos : Pos} {k : Nat} {args : List Expr} {body : List Stmt} {pos : Pos} (O : EnvOk env) (hA : A.handled = none) (hx : May env x) (hy : May env y) (hk : env.kindOf "zip" = some .globalImplicit) (hg : B.Glob "zip" (.type "zip")) (hkp : Kp B (.type "zip"))
    (h : El B A env (spliced (backTo cpos (starEach args env))) ρ δ fun ms δ₁ => ∃ l1 l2, ms = [.tup l1, .tup l2] ∧ l1.length = l2.length ∧ ForOk2 B A env body x y Q (l1.zip l2) ρ δ₁)
    (hn : (backTo cpos (starEach args env)).all (fun x => !x.1) = true := by rfl)
    (hs : ∀ v, foldedSetIterable (.Call (.Name "zip" p) args [] cpos) env v = pure v := by intro _; rfl) :
    Ex B A env (exec (.For (.Tuple [.Name x xp, .Name y yp] k tp) (.Call (.Name "zip" p) args [] cpos) body [] pos) env) ρ δ Q := fun X I tk => by
  refine wpAny_For ?_ hs
  refine wpAny_Call_NameR (evGlob O hk hg X ?_ (by decide))
  have hn' : ((backTo cpos (starEach args env)).any (·.1) || ([] : List (Option Str × Sem Value)).any (·.1.isNone)) = false := by
    rw [List.any_nil, Bool.or_false, Bool.eq_false_iff]
    intro q
    obtain ⟨x, hx, e⟩ := List.any_eq_true.mp q
    have := List.all_eq_true.mp hn x hx
    rw [e] at this; cases this
  refine callWith_of (P := fun h => ∀ a o, B.hb.get? a = some o → h.get? a = some o) hn' (hkp _) (evalArgs_any hn ((h X I).into fun vs Y tk₁ l₁ ⟨ms, δ₁, ⟨t1, t2, e, hlen, hfor⟩, rl, I₁, n₁⟩ => ?_))
  subst e
  obtain ⟨u1, r1, e1, ⟨a1, xs, c1, ea1, hg1, rl1⟩, u2, r2, e2, ⟨a2, ys, c2, ea2, hg2, rl2⟩, e3⟩ := rl
  subst e1 e2 e3 ea1 ea2
  refine ⟨Y.keepsB, ?_⟩
  have hlt1 : a1 < Y.h.objs.size := Heap.lt_size (Y.sub _ _ hg1)
  have hlt2 : a2 < Y.h.objs.size := Heap.lt_size (Y.sub _ _ hg2)
  refine zipT_call (s := St B Y.h tk₁) (xs := xs.toArray) (ys := ys.toArray) ⟨_, Y.sub _ _ hg1, rfl, c1, rfl⟩ ⟨_, Y.sub _ _ hg2, rfl, c2, rfl⟩ fun h₀ Z₀ hk₀ => ?_
  refine wpAny_pyIter_zip Z₀.z ?_
  generalize hN : (St B Y.h tk₁).heap.objs.size = N at Z₀ ⊢
  have hN' : Y.h.objs.size = N := hN
  have lt1 : a1 < N := hN' ▸ hlt1
  have lt2 : a2 < N := hN' ▸ hlt2
  have D : ZipApart (N + 4) (N + 2) (N + 3) N (N + 1) a1 a2 := zapart N a1 a2 lt1 lt2
  let W : List Addr := [N + 4, N + 2, N + 3, N, N + 1]
  have hWY : ∀ a ∈ W, Y.h.get? a = none := fun a ha => by
    cases e : Y.h.get? a with
    | none => rfl
    | some o =>
      exact absurd ha (zw N a (hN' ▸ Heap.lt_size e))
  have hWX : ∀ a ∈ W, X.h.get? a = none := fun a ha => by
    cases e : X.h.get? a with
    | none => rfl
    | some o => obtain ⟨o', e'⟩ := l₁.live _ _ e; rw [hWY a ha] at e'; cases e'
  have hWg : ∀ a ∈ W, Y.g a = none := fun a ha => by
    cases e : Y.g a with
    | none => rfl
    | some o => have := Y.sub _ _ e; rw [hWY a ha] at this; cases this
  have hWf : ∀ a ∈ W, a ∉ foot env δ₁ := fun a ha q => by
    obtain ⟨o, e⟩ := I₁.live O q
    rw [hWY a ha] at e; cases e
  let Y₀ : Wd B := Y.more h₀ hk₀
  have lY₀ : Le [] Y Y₀ := Wd.more_le Y
  have lX₀ : Le (foot env δ) X Y₀ := (l₁.mono dom_foot).trans (lY₀.mono fun _ h => nomatch h) (D' := []) fun _ h => nomatch h
  have hl1 : xs.length = t1.length := rl1.length
  have hl2 : ys.length = t2.length := rl2.length
  refine codeAny_forLoop_any (FzI B A env body x y Q t1 t2 xs ys a1 a2 N W δ X Y) ?_ t1.length
    ⟨0, Y₀, ρ, δ₁, tk₁, rfl, by simp, Nat.zero_le _, Z₀, I₁.here lY₀, lX₀, n₁, fun _ _ e => e, hWf, hWg, by simpa using hfor⟩
  rintro n s' ⟨i, V, ρ', δ', tk', rfl, rfl, hi, Zi, I₃, lXV, nXV, gYV, hWf', hWn, hf⟩
  by_cases hlt : i < t1.length
  · have hxs : i < xs.length := by omega
    have hys : i < ys.length := by omega
    refine zipT_item (x := xs[i]) (y := ys[i]) D Zi (by simp [hxs]) (by simp [hys]) fun h₁ Z₁ hT₁ hk₁ => ?_
    refine wpAny_letOwnedTupleGo_zip Z₁.z fun h₂ hz₂ hs₂ => ?_
    generalize hTT : (St B V.h tk').heap.objs.size = T at Z₁ hT₁ hz₂ ⊢
    have hTT' : V.h.objs.size = T := hTT
    have hTW : ∀ a ∈ W, T ≠ a := fun a ha q => by
      have hz := Zi.live a (by simpa [W, or_comm, or_left_comm, or_assoc] using ha)
      obtain ⟨o, e⟩ := hz
      have := Heap.lt_size e
      rw [hTT'] at this
      exact Nat.lt_irrefl _ (q ▸ this)
    have hz4 : (N + 4) ∈ W := by simp [W]
    have hk2 : ∀ a o, V.h.get? a = some o → a ∉ W → h₂.get? a = some o := fun a o e n => by
      have c1 : a ≠ N + 4 := fun q => n (q ▸ hz4)
      exact (hs₂.2 a c1).trans (hk₁ a o c1 (fun q => n (by rw [q]; simp [W])) (fun q => n (by rw [q]; simp [W])) (fun q => n (by rw [q]; simp [W])) e)
    have Z₂ : ZS h₂ (N + 4) (N + 2) (N + 3) N (N + 1) a1 a2 xs.toArray ys.toArray .none (i + 1) := by
      have kk : ∀ c o, c ≠ N + 4 → h₁.get? c = some o → h₂.get? c = some o := fun c o n e => (hs₂.2 c n).trans e
      obtain ⟨b1, b2, ⟨a, b, b3⟩, b4, b5, b6, b7⟩ := Z₁
      exact ⟨hz₂, kk _ _ D.TIz b2, ⟨a, b, kk _ _ D.TOz b3⟩, b4.at fun o e => kk _ o D.i1z e, b5.at fun o e => kk _ o D.i2z e, b6.at fun o e => kk _ o D.l1z e, b7.at fun o e => kk _ o D.l2z e⟩
    let V₁ : Wd B := V.to h₂ W hk2 hWn
    have I₄ : Inv env ρ' δ' V₁ := I₃.toL hk2 hWn hWf'
    have lV₁ : Le (foot env δ) X V₁ := lXV.offL hk2 hWn hWX
    have eT : V₁.h.get? T = some (tupO [xs[i], ys[i]]) := (hs₂.2 T (hTW _ hz4)).trans hT₁
    have gT : V₁.g T = none := by
      show V.g T = none
      rw [← hTT']; exact V.gsize
    have hTX : X.h.get? T = none := by
      cases e : X.h.get? T with
      | none => rfl
      | some o => obtain ⟨o2, e2⟩ := lXV.live _ _ e; rw [← hTT', no_at_size] at e2; cases e2
    have hTf : T ∉ foot env δ' := fun q => by
      obtain ⟨o, e⟩ := I₃.live O q
      rw [← hTT', no_at_size] at e; cases e
    let V₂ : Wd B := V₁.fix T _ eT gT
    have I₅ : Inv env ρ' δ' V₂ := I₄.fix hTf
    have lV₂ : Le (foot env δ) X V₂ := lV₁.fix hTX
    obtain ⟨m1, hm1, rm1⟩ := rl1.get' (List.getElem?_eq_getElem hxs)
    obtain ⟨m2, hm2, rm2⟩ := rl2.get' (List.getElem?_eq_getElem hys)
    have gYV₂ : ∀ a o, Y.g a = some o → V₂.g a = some o := fun a o e => Wd.fix_g V₁ a o (gYV a o e)
    have rT : RepV B.C V₂.g (.tup [m1, m2]) (.ref T) := ⟨T, [xs[i], ys[i]], 0, rfl, Wd.fix_at _, ⟨_, _, rfl, RepV.mono gYV₂ m1 rm1, _, _, rfl, RepV.mono gYV₂ m2 rm2, rfl⟩⟩
    have hWn₂ : ∀ a ∈ W, V₂.g a = none := fun a ha => (if_neg (fun q => hTW a ha q.symm)).trans (hWn a ha)
    refine (assignTupV (xs := [x, y]) (ms := [m1, m2]) O hA rfl (fun z hz => by
      rcases List.mem_cons.mp hz with q | q
      · rw [q]; exact hx
      · rw [List.mem_singleton.mp q]; exact hy) rfl I₅ rT).into fun _ V₃ tk₃ l₃ ⟨I₆, e₆⟩ => ?_
    have hd : (t1.zip t2).drop i = (m1, m2) :: (t1.zip t2).drop (i + 1) := by
      have hz : i < (t1.zip t2).length := by rw [List.length_zip]; omega
      rw [List.drop_eq_getElem_cons hz]
      congr 1
      rw [List.getElem_zip]
      have q1 : t1[i]'(by omega) = m1 := by rw [List.getElem?_eq_getElem (by omega)] at hm1; exact Option.some.inj hm1
      have q2 : t2[i]'(by omega) = m2 := by rw [List.getElem?_eq_getElem (by omega)] at hm2; exact Option.some.inj hm2
      rw [q1, q2]
    rw [hd] at hf
    have gYV₃ : ∀ a o, Y.g a = some o → V₃.g a = some o := fun a o e => by rw [e₆]; exact gYV₂ a o e
    have keepZ : ∀ {δ₀ : Ds} (P1 P2 : Wd B), (∀ a o, Y.g a = some o → P1.g a = some o) → (∀ a ∈ W, a ∉ foot env δ₀) → Le (foot env δ₀) P1 P2 → ZS P1.h (N + 4) (N + 2) (N + 3) N (N + 1) a1 a2 xs.toArray ys.toArray .none (i + 1) → ZS P2.h (N + 4) (N + 2) (N + 3) N (N + 1) a1 a2 xs.toArray ys.toArray .none (i + 1) := by
      intro δ₀ P1 P2 g1 hW' l Z
      refine Z.keep fun a ha o e => ?_
      by_cases hw : a ∈ W
      · exact l.keep a o e (hW' a hw)
      · have hgh : ∃ o', Y.g a = some o' := by
          simp only [List.mem_cons, List.not_mem_nil, or_false] at ha
          rcases ha with q | q | q | q | q | q | q
          · exact absurd (by rw [q]; simp [W]) hw
          · exact absurd (by rw [q]; simp [W]) hw
          · exact absurd (by rw [q]; simp [W]) hw
          · exact absurd (by rw [q]; simp [W]) hw
          · exact absurd (by rw [q]; simp [W]) hw
          · rw [q]; exact ⟨_, hg1⟩
          · rw [q]; exact ⟨_, hg2⟩
        obtain ⟨o', e'⟩ := hgh
        have q1 := P1.sub _ _ (g1 a o' e')
        have q2 := P2.sub _ _ (l.g _ _ (g1 a o' e'))
        rw [e] at q1
        rw [q2]; exact q1.symm
    have Z₃ := keepZ V₂ V₃ gYV₂ hWf' l₃ Z₂
    have lV₃ : Le (foot env δ) X V₃ := lV₂.trans l₃ (foot_new nXV)
    have hWn₃ : ∀ a ∈ W, V₃.g a = none := fun a ha => by rw [e₆]; exact hWn₂ a ha
    refine (hf V₃ I₆).into fun f V₄ tk₅ l₆ ⟨mf, ρ'', δ'', q, rf, I₇, n₇⟩ => ?_
    have lV₄ : Le (foot env δ) X V₄ := lV₃.trans l₆ (foot_new nXV)
    have nV₄ : NewDom X δ δ'' := nXV.trans lV₃ n₇
    have Z₄ := keepZ V₃ V₄ gYV₃ hWf' l₆ Z₃
    have liveW : ∀ a ∈ W, ∃ o, V₃.h.get? a = some o := fun a ha => Z₃.live a (by simpa [W, or_comm, or_left_comm, or_assoc] using ha)
    have again : ForOk2 B A env body x y Q ((t1.zip t2).drop (i + 1)) ρ'' δ'' → ∃ m, m < t1.length - i ∧ FzI B A env body x y Q t1 t2 xs ys a1 a2 N W δ X Y m (St B V₄.h tk₅) := fun q =>
      ⟨t1.length - (i + 1), by omega, i + 1, V₄, ρ'', δ'', tk₅, rfl, rfl, hlt, Z₄, I₇, lV₄, nV₄, fun a o e => l₆.g _ _ (gYV₃ a o e), fun a ha => foot_live (Q' := True) (liveW a ha) n₇ (hWf' a ha),
        fun a ha => by obtain ⟨o, e⟩ := liveW a ha; exact (l₆.gh _ _ e).trans (hWn₃ a ha), q⟩
    cases mf with
    | ret mv => obtain ⟨w, rfl, rw'⟩ := rf; exact ⟨V₄, _, rfl, lV₄, .ret mv, ρ'', δ'', q, ⟨w, rfl, rw'⟩, I₇, nV₄⟩
    | brk => have : f = .brk := rf; subst this; exact ⟨V₄, _, rfl, lV₄, .next, ρ'', δ'', q, rfl, I₇, nV₄⟩
    | next => have : f = .next := rf; subst this; exact again q
    | cont => have : f = .cont := rf; subst this; exact again q
  · have hin : i = t1.length := by omega
    subst hin
    refine zipT_end hA D Zi (by simp [hl1]) fun h₁ hk₁ => ?_
    have hk2 : ∀ a o, V.h.get? a = some o → a ∉ W → h₁.get? a = some o := fun a o e n => hk₁ a o (fun q => n (by rw [q]; simp [W])) (fun q => n (by rw [q]; simp [W])) (fun q => n (by rw [q]; simp [W])) (fun q => n (by rw [q]; simp [W])) e
    have q : Q .next ρ' δ' := by
      have := hf
      rw [List.drop_of_length_le (by rw [List.length_zip]; omega)] at this
      exact this
    exact wpAny_execs_nil ⟨V.to h₁ W hk2 hWn, tk', rfl, lXV.offL hk2 hWn hWX, .next, ρ', δ', q, rfl, I₃.toL hk2 hWn hWf', nXV⟩
end
end Mine

/- part QQ -/
namespace Mine
open PySem PySem.W PySem.Calls PyProof.Rows

section
variable {B : Bs} {A : Around} {env : Env} {ρ : Vs} {δ δ' : Ds} {X Y : Wd B} {P : MV → Prop}
theorem Et.cmp2 {l r₁ r₂ : Expr} {op₁ op₂ : CmpOp} {pos : Pos} {whole : Sem Value} {Q : Bool → Ds → Prop}
    (h : Ev B A env (eval l env) ρ δ fun a δ₁ => Ev B A env (eval r₁ env) ρ δ₁ fun b δ₂ => CmpD B A op₁ δ₂ a b fun t => if t then Ev B A env (eval r₂ env) ρ δ₂ fun c δ₃ => CmpD B A op₂ δ₃ b c fun t2 => Q t2 δ₃ else Q false δ₂)
    (hm : lastMarks [op₁, op₂] [r₁, r₂] = false := by with_unfolding_all rfl) : Et B A env (isTrue (.Compare l [op₁, op₂] [r₁, r₂] pos) env whole) ρ δ Q := fun X I tk =>
  isTrue_chain ((h X I).into fun u Y tk₁ l₁ ⟨a, δ₁, h₁, ra, I₁, n₁⟩ => test_link ((h₁ Y I₁).into fun v Z tk₂ l₂ ⟨b, δ₂, h₂, rb, I₂, n₂⟩ =>
    (h₂ Z u v (l₂.repV ra) rb I₂.dicts).into fun w W tk₃ l₃ ⟨m, q, rm⟩ => by
      subst rm
      have lW := (l₁.trans l₂ n₁).trans (l₃.mono fun _ h => nomatch h) (n₁.trans l₁ n₂)
      have nW := n₁.trans l₁ n₂
      have I₃ := I₂.here l₃
      refine wpAny_truthy_bool ?_
      cases m with
      | false => exact ⟨W, _, rfl, lW, δ₂, q, I₃, nW⟩
      | true =>
        have q' : Ev B A env (eval r₂ env) ρ δ₂ fun c δ₃ => CmpD B A op₂ δ₃ b c fun t2 => Q t2 δ₃ := q
        exact test_last ((q' W I₃).into fun x V tk₄ l₄ ⟨c, δ₃, h₃, rc, I₄, n₄⟩ => (h₃ V v x (l₄.repV (l₃.repV rb)) rc I₄.dicts).into fun y U tk₅ l₅ ⟨m2, q2, rm2⟩ => by
          subst rm2
          exact wpAny_truthy_bool ⟨U, _, rfl, (lW.trans l₄ nW).trans (l₅.mono fun _ h => nomatch h) (nW.trans lW n₄), δ₃, q2, I₄.here l₅, nW.trans lW n₄⟩))) hm
theorem fold_rep {vs : List Value} : ∀ (k : Nat) (acc : Array Value), List.foldl (fun x1 x2 => x1 ++ x2) acc (List.replicate k vs.toArray) = acc ++ ((List.replicate k vs).flatten).toArray
  | 0, acc => by simp
  | k + 1, acc => by rw [List.replicate_succ, List.foldl_cons, fold_rep k, List.replicate_succ, List.flatten_cons]; simp
theorem mul_raw {prog : Program} {w : World} {E : Value → Shared → Prop} {s : Shared} {l : Addr} {items : Array Value} {k : Nat} {x : Int} {u : Tok} {Q : Value → Shared → Prop}
    (hl : s.heap.get? l = some { cls := .type "list", dict := none, data := .seq items k, slots := #[] }) (hlo : -(2 ^ 63 : Int) ≤ x) (hhi : x < 2 ^ 63) (hsz : items.size * x.toNat ≤ 2 ^ 24)
    (h : Q (.ref s.heap.objs.size) { s with heap := s.heap.push { cls := .type "list", data := .seq (List.foldl (fun x1 x2 => x1 ++ x2) #[] (List.replicate (if items.isEmpty = true then 0 else x.toNat) items)) } }) :
    wpAny (model prog w) A (binaryOp .Mult (.ref l) (.int x u)) Q E s :=
  wpAny_binaryOp_repeat_ref (T := "list") (U := "int") (by decide) ⟨_, hl, rfl⟩ (fun s' => typeIs_int s' x u) noFill_list_mul PySem.F.fills_int_mul PySem.F.slot_int_rmul repeat_list PySem.F.slot_int_index.lookup
    (call_meets PySem.F.slot_int_rmul (typeIs_int s x u) PySem.F.entry_int_rmul (PySem.F.args_int_rmul_2 _ _) (int___rmul___int_list x u l items k)
      ⟨hl, rfl, ⟨_, hl, rfl⟩, call_meets PySem.F.slot_list_mul ⟨_, hl, rfl⟩ PySem.F.entry_list_mul (PySem.F.args_list_mul_2 _ _)
        (AutoListH.list___mul___list_int_3 l items k x u (by simp [Builtin.List.listFitsIndex]; omega) (by omega) (by simp [Builtin.List.listTooLong, sizeLine]; omega))
        ⟨hl, h⟩⟩)
theorem Bin.mulL {m : MV} {k : Nat} (hk : k ≤ 1000) (h : P (.lst (List.replicate k m))) : Bin B A .Mult (.lst [m]) (.int k) P := fun X u v ⟨a, vs, n, e, hg, rl⟩ ⟨t, e'⟩ tk => by
  subst e e'
  obtain ⟨x, r, ex, rx, er⟩ := rl
  subst ex; cases er
  have ho := X.sub _ _ hg
  have e1 : [x].toArray.size = 1 := rfl
  refine mul_raw (s := St B X.h tk) ho (by omega) (by omega) (by rw [e1, Int.toNat_natCast, Nat.one_mul]; omega) ?_
  rw [if_neg (by simp), Int.toNat_natCast, fold_rep]
  have e2 : (List.replicate k [x]).flatten = List.replicate k x := by
    have : ∀ k, (List.replicate k [x]).flatten = List.replicate k x := fun k => by
      induction k with
      | zero => rfl
      | succ k ih => rw [List.replicate_succ, List.flatten_cons, ih, List.replicate_succ]; rfl
    exact this k
  rw [e2]
  have e3 : (#[] : Array Value) ++ (List.replicate k x).toArray = (List.replicate k x).toArray := by simp
  rw [e3]
  have rr : RepL B.C X.g (List.replicate k m) (List.replicate k x) := by
    have : ∀ k, RepL B.C X.g (List.replicate k m) (List.replicate k x) := fun k => by
      induction k with
      | zero => rfl
      | succ k ih => exact ⟨x, _, rfl, rx, ih⟩
    exact this k
  have l₂ := Wd.push_le X (lstO (List.replicate k x))
  exact ⟨X.push (lstO (List.replicate k x)), tk, rfl, l₂, _, h, _, _, 0, rfl, Wd.push_at X _, l₂.repL rr⟩
end
end Mine

/- part QR -/
namespace Mine
open PySem PySem.W PySem.Calls PyProof.Rows

noncomputable def Kept (h₀ h : Heap) : Prop := ∀ b o, h₀.get? b = some o → h.get? b = some o
noncomputable def absI (i : Int) : Int := if i < 0 then -i else i
section
variable {prog : Program} {w : World} {A : Around} {E : Value → Shared → Prop} {s : Shared} {h₀ : Heap} {a kS : Addr} {vs : List Value} {kz : List Int} {keys : Array Value} {e e1 : Nat} {P : PySem.Fin → Shared → Prop}
theorem kept_upd {h₀ h : Heap} {a : Addr} (K : Kept h₀ h) (f : Obj → Obj) (h0 : h₀.get? a = none) : Kept h₀ (h.update a f) := fun b o q =>
  ((Heap.SameBut.update h a f).2 b (fun e => by rw [e, h0] at q; cases q)).trans (K b o q)
set_option maxHeartbeats 4000000 in
theorem ska_tail {st : SortSt} (K : Kept h₀ s.heap) (nk : s.heap.get? kS = some (seqObj "list" keys e)) (na : s.heap.get? a = some (seqObj "list" #[] e1)) (hka : kS ≠ a) (k0 : h₀.get? kS = none) (a0 : h₀.get? a = none)
    (hk : IntsAre keys.toList kz) (hlen : kz.length = vs.length) (h64 : vs.length < 64) (hp : (arrOf st).Perm (keys.zip vs.toArray)) (hs : SortedTo (arrOf st) (arrOf st).size) (hfl : failedOf st = none)
    (h : ∀ h' tk out c, Kept h₀ h' → h'.get? a = some (seqObj "list" out c) → KskOut false kz vs out.toList → P (.done (.ret .none)) { s with heap := h', toks := tk }) :
    wpAny (model prog w) A (ksk_tail a false e1 (.ref kS) st) P E s := by
  have hsz : keys.size = vs.length := by
    have h1 := hk.length
    rw [Array.length_toList] at h1
    omega
  have hsz2 : (arrOf st).size = vs.length := by rw [hp.size_eq, Array.size_zip, hsz, List.size_toArray, Nat.min_self]
  have hout : ((arrOf st).map (·.2)).size = vs.length := by rw [Array.size_map]; exact hsz2
  have s1 := Heap.SameBut.update s.heap kS (Obj.mapSeq fun _ => (#[] : Array Value))
  have na1 : (s.heap.update kS (Obj.mapSeq fun _ => (#[] : Array Value))).get? a = some (seqObj "list" #[] e1) := (s1.2 a hka.symm).trans na
  obtain ⟨c2, hc2⟩ : ∃ c2, ((s.heap.update kS (Obj.mapSeq fun _ => (#[] : Array Value))).update a (Obj.mapSeq fun _ => (arrOf st).map (·.2))).get? a = some (seqObj "list" ((arrOf st).map (·.2)) c2) := ⟨_, get?_update_seq na1 fun _ => (arrOf st).map (·.2)⟩
  unfold ksk_tail
  try dsimp only
  refine wpAny_bind (listUpdate_at nk rfl ?_ (by rw [hsz, sizeLine_eq]; omega) (Nat.zero_le _))
  refine wpAny_bind (wpAny_letGo ?_)
  refine wpAny_bind (seqEpoch_at na1 rfl ?_)
  refine wpAny_bind (listUpdate_at na1 rfl ?_ (Nat.zero_le _) (Nat.le_trans (Nat.le_of_eq hout) (by rw [sizeLine_eq]; omega)))
  rw [hfl]
  simp only [bne_self_eq_false, Bool.false_eq_true, if_false]
  exact wpAny_pure (h _ _ _ c2 (kept_upd (kept_upd K _ k0) _ a0) hc2 (ksk_out (b := false) hk hp hs))
set_option maxHeartbeats 4000000 in
theorem ska_end (K : Kept h₀ s.heap) (nk : s.heap.get? kS = some (seqObj "list" keys e)) (na : s.heap.get? a = some (seqObj "list" #[] e1)) (hka : kS ≠ a) (k0 : h₀.get? kS = none) (a0 : h₀.get? a = none)
    (hk : IntsAre keys.toList kz) (hlen : kz.length = vs.length) (h64 : vs.length < 64)
    (h : ∀ h' tk out c, Kept h₀ h' → h'.get? a = some (seqObj "list" out c) → KskOut false kz vs out.toList → P (.done (.ret .none)) { s with heap := h', toks := tk }) :
    wpAny (model prog w) A (ksk_end a false vs.toArray e1 (.ref kS) keys) P E s := by
  have hsz : keys.size = vs.length := by
    have h1 := hk.length
    rw [Array.length_toList] at h1
    omega
  have hzs : (keys.zip vs.toArray).size = vs.length := by rw [Array.size_zip, hsz, List.size_toArray, Nat.min_self]
  unfold ksk_end
  dsimp only
  refine wpAny_ite_split (fun hab => by simp at hab) (fun _ => ?_)
  by_cases h2 : vs.toArray.size < 2
  · rw [if_pos h2, if_pos h2]
    refine wpAny_bind (wpAny_pure ?_)
    rw [StateT.run_pure]
    refine wpAny_bind (wpAny_pure ?_)
    dsimp only
    refine ska_tail (st := SortSt.mk' general' (keys.zip vs.toArray) #[] 7 none) K nk na hka k0 a0 hk hlen h64 (Array.Perm.refl _) ?_ rfl h
    intro i j hij hj
    have hj2 : j < (keys.zip vs.toArray).size := hj
    rw [hzs] at hj2
    rw [List.size_toArray] at h2
    have : i = j := by omega
    subst this
    exact Int.le_refl _
  · rw [if_neg h2, if_neg h2]
    rw [List.size_toArray] at h2
    rw [ksk_kind hk (by rw [hsz]; omega)]
    refine wpAny_bind (wpAny_pure ?_)
    refine wpAny_bind (wpAny_mono (wpS_sortRuns (a₀ := keys.zip vs.toArray) (st := SortSt.mk' oneType' (keys.zip vs.toArray) #[] 7 none)
      (Q := fun _ st' => (arrOf st').Perm (keys.zip vs.toArray) ∧ failedOf st' = none ∧ SortedTo (arrOf st') (keys.zip vs.toArray).size)
      (ksk_intKeys hk) ⟨Array.Perm.refl _, rfl, rfl, rfl⟩ (by rw [hzs]; omega) (by rw [hzs]; exact h64) fun st' a1 a2 a3 => ⟨a1, a2, a3⟩) ?_ fun _ _ e => e)
    rintro ⟨⟨⟩, st'⟩ s' ⟨rfl, hp, hf, hs⟩
    dsimp only
    exact ska_tail K nk na hka k0 a0 hk hlen h64 hp (by rw [hp.size_eq]; exact hs) hf h
set_option maxHeartbeats 4000000 in
theorem ska_rest {ns : List Int} (K : Kept h₀ s.heap) (nk : s.heap.get? kS = some (seqObj "list" #[] 0)) (na : s.heap.get? a = some (seqObj "list" #[] e1)) (hka : kS ≠ a) (k0 : h₀.get? kS = none) (a0 : h₀.get? a = none)
    (hi : IntsAre vs ns) (h64 : vs.length < 64)
    (h : ∀ h' tk out c, Kept h₀ h' → h'.get? a = some (seqObj "list" out c) → KskOut false (ns.map absI) vs out.toList → P (.done (.ret .none)) { s with heap := h', toks := tk }) :
    wpAny (model prog w) A (ksk_rest a (.builtin "abs") false vs.toArray e1 (.ref kS)) P E s := by
  have hlen : (ns.map absI).length = vs.length := by rw [List.length_map, hi.length]
  unfold ksk_rest
  refine wpAny_bind (wpAny_rule ?_)
  first
    | rw [List.forIn_toArray]
    | (rw [← Array.forIn_toList]; simp only [List.toList_toArray])
    | rw [← Array.forIn_toList]
  refine wpAny_bind (ksk_fold (fun i s' => ∃ h' tk kA e, s' = { s with heap := h', toks := tk } ∧ Kept h₀ h' ∧ h'.get? kS = some (seqObj "list" kA e) ∧ h'.get? a = some (seqObj "list" #[] e1) ∧ IntsAre kA.toList ((ns.map absI).take i)) vs 0 s
    ⟨s.heap, s.toks, #[], 0, rfl, K, nk, na, by simpa using IntsAre.nil⟩ ?step ?done)
  case step =>
    rintro j x s' hx ⟨h', tk, kA, e, rfl, K', nk', na', hk⟩
    simp only [Nat.zero_add] at hk ⊢
    have hj : j < vs.length := (List.getElem?_eq_some_iff.mp hx).1
    obtain ⟨n, hn⟩ : ∃ n, ns[j]? = some n := ⟨_, List.getElem?_eq_getElem (by rw [← hi.length]; exact hj)⟩
    obtain ⟨t, ht⟩ := hi.get j n hn
    rw [ht] at hx
    cases hx
    have hz : kA.size ≤ vs.length := by
      have h1 := hk.length
      rw [Array.length_toList, List.length_take] at h1
      omega
    refine wpAny_bind (wpAny_attempt (PyProof.Rows.call_abs_int fun u tk2 => ?_))
    try dsimp only
    have s1 := Heap.SameBut.update h' kS (Obj.mapSeq (·.push (.int (absI n) u)))
    obtain ⟨c2, hc2⟩ : ∃ c2, (h'.update kS (Obj.mapSeq (·.push (.int (absI n) u)))).get? kS = some (seqObj "list" (kA.push (.int (absI n) u)) c2) := ⟨_, get?_update_seq nk' (·.push (.int (absI n) u))⟩
    have ek : (ns.map absI).take (j + 1) = (ns.map absI).take j ++ [absI n] := by rw [List.take_add_one, List.getElem?_map, hn]; simp
    have ea : (kA.push (Value.int (absI n) u)).toList = kA.toList ++ [Value.int (absI n) u] := by simp
    refine wpAny_bind (listUpdate_at nk' rfl ?_ (by rw [sizeLine_eq]; omega) (Nat.le_trans (Nat.le_of_eq (Array.size_push ..)) (by rw [sizeLine_eq]; omega)))
    exact wpAny_pure ⟨rfl, _, _, kA.push (.int (absI n) u), c2, rfl, kept_upd K' _ k0, hc2, (s1.2 a hka.symm).trans na', by rw [ea, ek]; exact ksk_snoc hk⟩
  case done =>
    rintro s' ⟨h', tk, kA, e, rfl, K', nk', na', hk⟩
    have hk' : IntsAre kA.toList (ns.map absI) := by
      have e3 : (ns.map absI).take (0 + vs.length) = ns.map absI := List.take_of_length_le (by omega)
      rw [e3] at hk
      exact hk
    try dsimp only
    refine wpAny_bind (listItems_at nk' rfl ?_)
    exact ska_end K' nk' na' hka k0 a0 hk' hlen h64 fun h3 tk3 out c K3 N3 k3 => h h3 tk3 out c K3 N3 k3
end
end Mine

/- part QS -/
namespace Mine
open PySem PySem.W PySem.Calls PyProof.Rows

section
variable {prog : Program} {w : World} {A : Around} {E : Value → Shared → Prop} {s : Shared} {a : Addr} {vs : List Value} {P : PySem.Fin → Shared → Prop}
theorem ska_sort {ns : List Int} {n : Nat} {h₀ : Heap} (K : Kept h₀ s.heap) (a0 : h₀.get? a = none) (hS : ∀ b, s.heap.objs.size ≤ b → h₀.get? b = none) (ho : s.heap.get? a = some (seqObj "list" vs.toArray n)) (hi : IntsAre vs ns) (h64 : vs.length < 64)
    (h : ∀ h' tk out c, Kept h₀ h' → h'.get? a = some (seqObj "list" out c) → KskOut false (ns.map absI) vs out.toList → P (.done (.ret .none)) { s with heap := h', toks := tk }) :
    wpAny (model prog w) A (ksk_tree a (.builtin "abs") false) P E s := by
  have ha : a < s.heap.objs.size := Heap.lt_size ho
  obtain ⟨e1, ho1⟩ : ∃ e1, (s.heap.update a (Obj.mapSeq fun _ => (#[] : Array Value))).get? a = some (seqObj "list" #[] e1) := ⟨_, get?_update_seq ho fun _ => #[]⟩
  have K1 : Kept h₀ (s.heap.update a (Obj.mapSeq fun _ => (#[] : Array Value))) := kept_upd K _ a0
  have hkS : ((s.heap.update a (Obj.mapSeq fun _ => (#[] : Array Value))).push (seqObj "tuple" vs.toArray 0)).objs.size = s.heap.objs.size + 1 := by rw [size_push', Heap.size_update]
  unfold ksk_tree
  refine wpAny_bind (listItems_at ho rfl ?_)
  refine wpAny_bind (listUpdate_at ho rfl ?_ (by rw [List.size_toArray, sizeLine_eq]; omega) (Nat.zero_le _))
  refine wpAny_bind (seqEpoch_at ho1 rfl ?_)
  refine wpAny_bind (wpAny_newTuple ?_ (by show vs.length ≤ _; rw [sizeLine_eq]; omega))
  refine wpAny_bind (wpAny_newList ?_ (Nat.zero_le _))
  refine wpAny_holding ?_
  exact ska_rest (s := { s with heap := ((s.heap.update a (Obj.mapSeq fun _ => (#[] : Array Value))).push (seqObj "tuple" vs.toArray 0)).push (seqObj "list" #[] 0) }) (kS := ((s.heap.update a (Obj.mapSeq fun _ => (#[] : Array Value))).push (seqObj "tuple" vs.toArray 0)).objs.size)
    (fun b o q => Heap.get?_push_of_some _ (Heap.get?_push_of_some _ (K1 b o q))) (Heap.get?_push_size _ rfl) (Heap.get?_push_of_some _ (Heap.get?_push_of_some _ ho1)) (by rw [hkS]; exact Nat.ne_of_gt (Nat.lt_succ_of_lt ha)) (hS _ (by rw [hkS]; exact Nat.le_succ _)) a0 hi h64 h
end
section
variable {B : Bs} {A : Around} {env : Env} {ρ : Vs} {δ δ' : Ds} {X Y : Wd B} {P : MV → Prop} {Q : MV → Ds → Prop}
theorem out_ints {ns : List Int} {vs : List Value} {out : List Value} (hi : IntsAre vs ns) (k : KskOut false (ns.map absI) vs out) : ∃ ns' : List Int, IntsAre out ns' ∧ ns'.Perm ns ∧ ns'.Pairwise (fun x y => absI x ≤ absI y) := by
  obtain ⟨ps, hp, ho, hs⟩ := k
  have hrel : ∀ p, p ∈ (ns.map absI).zip vs → p.1 = absI (numOf p.2) ∧ p.2 ∈ vs := by
    rw [← hi.nums, List.map_map, List.zip_map_left]
    intro p hp
    obtain ⟨⟨u, v⟩, hq, rfl⟩ := List.mem_map.mp hp
    have h1 : u = v ∧ u ∈ vs := mem_zip_self hq
    refine ⟨?_, ?_⟩
    · show absI (numOf u) = absI (numOf v)
      rw [h1.1]
    · show v ∈ vs
      rw [← h1.1]
      exact h1.2
  refine ⟨(ps.map Prod.snd).map numOf, ?_, ?_, ?_⟩
  · rw [ho]
    exact intsAre_map _ fun v hv => by
      obtain ⟨p, hp', rfl⟩ := List.mem_map.mp hv
      exact hi.all _ (hrel p (hp.mem_iff.mp hp')).2
  · have h1 := (hp.map Prod.snd).map numOf
    rw [List.map_snd_zip (by rw [List.length_map]; exact Nat.le_of_eq hi.length), hi.nums] at h1
    exact h1
  · rw [List.pairwise_map, List.pairwise_map]
    refine hs.imp_of_mem fun {p q} hp' hq' hr => ?_
    have hr' : p.1 ≤ q.1 := hr
    rw [(hrel p (hp.mem_iff.mp hp')).1, (hrel q (hp.mem_iff.mp hq')).1] at hr'
    exact hr'
theorem sorted_abs {ns : List Int} (h64 : ns.length < 64) (h : ∀ ns' : List Int, ns'.Perm ns → ns'.Pairwise (fun x y => absI x ≤ absI y) → P (.lst (ns'.map .int))) {X : Wd B} {u : Value} (r : RepV B.C X.g (.lst (ns.map .int)) u) :
    Rn B A [] (call (.builtin "sorted") [u] [(Str.ofString "key", .builtin "abs")]) X (fun v Y => ∃ m, P m ∧ RepV B.C Y.g m v) := fun tk => by
  obtain ⟨l, vs, n, e, hg, rl⟩ := r
  subst e
  have hi := intsAre_of rl
  have hlen : vs.length = ns.length := hi.length
  have hl : X.h.IsList l vs.toArray := ⟨_, X.sub _ _ hg, rfl, n, rfl⟩
  refine call_function_entry_kw kind_sorted plain_sorted entry_sorted (ksk_s1 _ _) ?_
  unfold Builtin.«sorted»
  refine wpAny_bind (m := checkCount "sorted" 1 1 _) (wpAny_pure ?_)
  refine wpAny_bind (wpAny_collect_seq l (.inl rfl) (X.sub _ _ hg) rfl rfl (fun h₁ hk₁ => ?_) (by rw [List.size_toArray, sizeLine_eq]; omega))
  refine wpAny_bind (wpAny_newList ?_ (by rw [sizeLine_eq]; simp; omega))
  have ht : vs.toArray.toList = vs := by simp
  rw [ht]
  have hoL : (h₁.push (seqObj "list" vs.toArray 0)).get? h₁.objs.size = some (seqObj "list" vs.toArray 0) := Heap.get?_push_size _ rfl
  have K : Kept X.h (h₁.push (seqObj "list" vs.toArray 0)) := fun b o q => Heap.get?_push_of_some _ (hk₁ b o q)
  have gone : ∀ b, h₁.objs.size ≤ b → X.h.get? b = none := fun b hb => by
    cases q : X.h.get? b with
    | none => rfl
    | some o => exact absurd (Heap.lt_size (hk₁ b o q)) (Nat.not_lt.mpr hb)
  refine wpAny_bind (wpAny_holding (wpAny_call_entry_kw slot_list_sort ⟨_, hoL, rfl⟩ entry_list_sort ?_ (ksk_l1 _ _)))
  rw [ksk_t4]
  refine ska_sort (s := { St B X.h tk with heap := h₁.push (seqObj "list" vs.toArray 0) }) K (gone _ (Nat.le_refl _)) (fun b hb => gone b (Nat.le_trans (by show h₁.objs.size ≤ (h₁.push _).objs.size; rw [size_push']; exact Nat.le_succ _) hb)) hoL hi (by omega) fun h' tk' out c K' ho' ko => ⟨_, rfl, ?_⟩
  obtain ⟨ns', a1, a2, a3⟩ := out_ints hi ko
  refine wpAny_pure ⟨_, rfl, ?_⟩
  have hD : (X.more h' K').h.get? h₁.objs.size = some (lstO out.toList c) := by
    show h'.get? _ = some { cls := .type "list", data := .seq out.toList.toArray c }
    rw [Array.toArray_toList]; exact ho'
  have gD : X.g h₁.objs.size = none := by
    cases q : X.g h₁.objs.size with
    | none => rfl
    | some o => have := X.sub _ _ q; rw [gone _ (Nat.le_refl _)] at this; cases this
  have l₁ : Le [] X (X.more h' K') := Wd.more_le X
  exact ⟨(X.more h' K').fix _ _ hD gD, tk', rfl, l₁.fix (gone _ (Nat.le_refl _)), _, h ns' a2 a3, _, out.toList, c, rfl, Wd.fix_at _, repL_ints a1⟩
theorem Ev.sortedAbs {e : Expr} {p p2 kp pos : Pos} (O : EnvOk env) (hk : env.kindOf "sorted" = some .globalImplicit) (hg : B.Glob "sorted" (.builtin "sorted")) (hkp : Kp B (.builtin "sorted")) (hk2 : env.kindOf "abs" = some .globalImplicit) (hg2 : B.Glob "abs" (.builtin "abs"))
    (h : Ev B A env (eval e env) ρ δ fun m δ' => ∃ ns : List Int, m = .lst (ns.map .int) ∧ ns.length < 64 ∧ ∀ ns' : List Int, ns'.Perm ns → ns'.Pairwise (fun x y => absI x ≤ absI y) → Q (.lst (ns'.map .int)) δ')
    (he : backTo pos (starEach [e] env) = (false, eval e env) :: backTo pos (starEach [] env) := by rfl) (he0 : starEach [e] env = (false, eval e env) :: starEach [] env := by rfl) (hpl : (backTo pos (starEach [e] env)).any (·.1) = false := by rfl) :
    Ev B A env (eval (.Call (.Name "sorted" p) [e] [⟨some "key", .Name "abs" p2, kp⟩] pos) env) ρ δ Q := fun X I tk => by
  refine wpAny_Call_Name_kw (evGlob O hk hg X ?_ (by decide))
  have hel : El B A env (spliced (backTo pos (starEach [e] env))) ρ δ fun ms δ' => ∃ m, ms = [m] ∧ ∃ ns : List Int, m = .lst (ns.map .int) ∧ ns.length < 64 ∧ ∀ ns' : List Int, ns'.Perm ns → ns'.Pairwise (fun x y => absI x ≤ absI y) → Q (.lst (ns'.map .int)) δ' :=
    El.cons (h.mono fun m δ' q => El.nil ⟨m, rfl, q⟩) he0
  refine PyProof.Rows.callWith_kw ((hel X I).into fun vs Y tk₁ l₁ ⟨ms, δ', ⟨m, em, ns, e1, h64, q⟩, rl, I₁, n₁⟩ => ?_) he hpl
  subst em e1
  obtain ⟨u, r, ev, ru, er⟩ := rl
  subst ev; cases er
  refine PyProof.Rows.kws_cons (evGlob O hk2 hg2 Y (PyProof.Rows.kws_nil ?_) (by decide))
  have sa := sorted_abs (B := B) (A := A) (P := fun m => Q m δ') h64 q ru
  exact sa.into fun v Z tk₂ l₂ ⟨m, qm, rm⟩ => ⟨Z, _, rfl, l₁.trans (l₂.mono fun _ h => nomatch h) (D' := []) (fun _ h => nomatch h), m, δ', qm, rm, I₁.here l₂, n₁⟩
end
end Mine

/- part QT -/
namespace Mine
open PySem PySem.W PySem.Calls PyProof.Rows

section
variable {B : Bs} {A : Around} {env : Env} {ρ : Vs} {δ δ' : Ds} {X Y : Wd B} {P : MV → Prop} {Q : MV → Ds → Prop} {l : List MV}
theorem Ev.dict2 {k1 k2 : Str} {q1 q2 : Nat} {p1 p2 pos : Pos} {v1 v2 : Expr} (O : EnvOk env) (hne : k1 ≠ k2)
    (h : Ev B A env (eval v1 env) ρ δ fun m1 δ₁ => Ev B A env (eval v2 env) ρ δ₁ fun m2 δ₂ => ∀ a, Q (.dict a) (δ₂ ++ [(a, .strs [(k1, m1), (k2, m2)])])) :
    Ev B A env (eval (.Dict [some (.Constant (.str k1) q1 p1), some (.Constant (.str k2) q2 p2)] [v1, v2] pos) env) ρ δ Q := fun X I tk => by
  refine wpAny_Dict_any (s := St B X.h tk) rfl rfl (by simp) (by simp) ?_
  let Y : Wd B := X.more (X.h.push { cls := .type "dict", data := .dict #[] }) fun a x e => Heap.get?_push_of_some _ e
  have lY : Le [] X Y := Wd.more_le X
  have I₁ : Inv env ρ δ Y := I.here lY
  have hD0 : Y.h.get? X.h.objs.size = some { cls := .type "dict", data := .dict #[] } := Heap.get?_push_size _ rfl
  have hDg : Y.g X.h.objs.size = none := X.gsize
  have hDf : X.h.objs.size ∉ foot env δ := fun q => by
    obtain ⟨o, ho⟩ := I.live O q
    rw [no_at_size] at ho; cases ho
  have hsys : (X.h.objs.size == sysModules) = false := by
    rw [Bool.eq_false_iff]
    intro q
    have q' : X.h.objs.size = 1 := eq_of_beq q
    have g : X.h.Ns mainGlobals B.mg := B.T.g.keeps X.keepsB
    obtain ⟨o, _, _, ho, _⟩ := g
    have := Heap.lt_size ho
    rw [q'] at this
    exact absurd this (by decide)
  show wpAny B.M A (evalPairs [(eval (.Constant (.str k1) q1 p1) env, do let x ← eval v1 env; standAt pos; pure x), (eval (.Constant (.str k2) q2 p2) env, do let x ← eval v2 env; standAt pos; pure x)]) _ _ (St B Y.h tk)
  unfold evalPairs
  refine wpAny_bind (Calls.Constant_str ?_)
  refine wpAny_bind (wpAny_holding (wpAny_bind ((h Y I₁).into fun u1 Z tk₁ l₁ ⟨m1, δ₁, h₁, r₁, I₂, n₁⟩ => wpAny_bind (wpAny_standAt (wpAny_pure ?_)))))
  refine wpAny_bind (wpAny_holding ?_)
  refine wpAny_bind (Calls.Constant_str ?_)
  refine wpAny_bind (wpAny_holding (wpAny_bind ((h₁ Z I₂).into fun u2 V tk₂ l₂ ⟨m2, δ₂, q, r₂, I₃, n₂⟩ => wpAny_bind (wpAny_standAt (wpAny_pure ?_)))))
  refine wpAny_bind (wpAny_holding (wpAny_pure ?_))
  refine wpAny_pure (wpAny_pure ?_)
  have lYV : Le (dom δ) Y V := l₁.trans l₂ n₁
  have nYV : NewDom Y δ δ₂ := n₁.trans l₁ n₂
  have hDV : V.h.get? X.h.objs.size = some { cls := .type "dict", data := .dict #[] } := lYV.keep _ _ hD0 fun q => hDf (dom_foot _ q)
  have hDVg : V.g X.h.objs.size = none := (lYV.gh _ _ hD0).trans hDg
  have hDδ : X.h.objs.size ∉ foot env δ₂ := foot_live (Q' := True) ⟨_, hD0⟩ nYV hDf
  have hDict : V.h.DictOf (PySem.strKind PG B.w) X.h.objs.size ([] : List (Str × Value)) := ⟨_, _, _, hDV, ⟨rfl, rfl, rfl⟩, rfl, by intro e he; simp at he, .nil, by simp⟩
  refine wpAny_storeAll (knd := PySem.strKind PG B.w) _ [(k1, u1), (k2, u2)] [] (St B V.h tk₂) _ ⟨by simp [PySem.strKind, Value.isStrOf], rfl, by simp [PySem.strKind, Value.isStrOf], rfl, trivial⟩ hDict (by rw [sizeLine_eq]; simp) fun h' hm' hs' => ?_
  have em : merged ([] : List (Str × Value)) [(k1, u1), (k2, u2)] = [(k1, u1), (k2, u2)] := by
    have hne' : ¬ (k1 = k2) := hne
    simp [merged, stored, hne']
  rw [em] at hm'
  have hk : ∀ a o, V.h.get? a = some o → a ∉ [X.h.objs.size] → h'.get? a = some o := fun a o e n => (hs'.2 a fun q => n (List.mem_singleton.mpr q)).trans e
  have D0 : ∀ a ∈ [X.h.objs.size], V.g a = none := fun a h => by rw [List.mem_singleton.mp h]; exact hDVg
  let V' : Wd B := V.to h' [X.h.objs.size] hk D0
  have I₄ : Inv env ρ δ₂ V' := I₃.to hk D0 hDδ
  have lX : Le (dom δ) X V := (lY.mono fun _ h => nomatch h).trans lYV fun _ h => .inl h
  have lX' : Le (dom δ) X V' := lX.off hk D0 (no_at_size _)
  have nX : NewDom X δ δ₂ := (NewDom.refl X δ).trans lY nYV
  have hn : X.h.objs.size ∉ dom δ₂ := fun q => hDδ (dom_foot _ q)
  have H : DictsAt (δ₂ ++ [(X.h.objs.size, .strs [(k1, m1), (k2, m2)])]) V' := by
    refine ⟨fun p hp => ?_, ?_⟩
    · rcases List.mem_append.mp hp with h | h
      · exact I₄.dicts.at_ p h
      · rw [List.mem_singleton.mp h]
        exact ⟨⟨_, hm', u1, _, rfl, l₂.repV r₁, u2, _, rfl, r₂, rfl⟩, hDVg, hsys⟩
    · show (List.map _ _).Nodup
      rw [List.map_append, List.nodup_append]
      exact ⟨I₄.dicts.nodup, by simp, fun x hx y hy => by simp at hy; subst hy; exact fun e => hn (e ▸ hx)⟩
  have nd : NewDom V' δ₂ (δ₂ ++ [(X.h.objs.size, .strs [(k1, m1), (k2, m2)])]) → True := fun _ => trivial
  have ndX : NewDom X δ (δ₂ ++ [(X.h.objs.size, DC.strs [(k1, m1), (k2, m2)])]) := fun b hb => by
    rw [show dom (δ₂ ++ [(X.h.objs.size, DC.strs [(k1, m1), (k2, m2)])]) = dom δ₂ ++ [X.h.objs.size] by simp [dom]] at hb
    rcases List.mem_append.mp hb with q | q
    · exact nX b q
    · rw [List.mem_singleton.mp q]; exact .inr (no_at_size _)
  have I₅ : Inv env ρ (δ₂ ++ [(X.h.objs.size, .strs [(k1, m1), (k2, m2)])]) V' := by
    refine ⟨I₄.vars, ?_, fun y c hc => ?_, H⟩
    · obtain ⟨a, b, m, hm⟩ := I₄.loc
      refine ⟨fun q => ?_, b, m, hm⟩
      rw [show dom (δ₂ ++ [(X.h.objs.size, DC.strs [(k1, m1), (k2, m2)])]) = dom δ₂ ++ [X.h.objs.size] by simp [dom]] at q
      rcases List.mem_append.mp q with q | q
      · exact a q
      · exact hDδ (by rw [← List.mem_singleton.mp q]; exact List.mem_cons_self)
    · obtain ⟨a, b, w⟩ := I₄.cells y c hc
      refine ⟨a, fun q => ?_, w⟩
      rw [show dom (δ₂ ++ [(X.h.objs.size, DC.strs [(k1, m1), (k2, m2)])]) = dom δ₂ ++ [X.h.objs.size] by simp [dom]] at q
      rcases List.mem_append.mp q with q | q
      · exact b q
      · exact hDδ (by rw [← List.mem_singleton.mp q]; exact List.mem_cons_of_mem _ (List.mem_append_left _ (List.mem_map.mpr ⟨(y, c), mem_of_lookup hc, rfl⟩)))
  exact ⟨V', _, rfl, lX', .dict X.h.objs.size, _, q _, rfl, I₅, ndX⟩
end
end Mine

/- part HN -/
namespace Mine
noncomputable section
open PySem PySem.W PyProof.Rows
noncomputable def stAt (n : Nat) : Stmt := (PG.main.body[n]?).getD (.Pass default)
noncomputable def clsBody : Stmt → List Stmt
  | .ClassDef _ _ _ body _ _ _ _ _ _ _ => body
  | _ => []
noncomputable def mtAt (n : Nat) : Stmt := ((clsBody (stAt 9)).filter fun s => match s with | .FunctionDef .. => true | _ => false)[n]?.getD (.Pass default)
/-- the text without its three rows that set the module's name -/
noncomputable def view : Program := { PG with main := { PG.main with body := PG.main.body.take 1 ++ ((PG.main.body.drop 2).take 5 ++ ((PG.main.body.drop 8).take 2 ++ PG.main.body.drop 11)) } }
noncomputable def defO : Stmt → DefRec
  | .FunctionDef name params body _ _ _ scope _ _ pos => ⟨name, params, body, scope, pos⟩
  | _ => ⟨default, default, [], default, default⟩
noncomputable def z (s : String) : Str := Str.ofString s
noncomputable def foO (st : Stmt) (q m : Str) (t : Tok) (c : Addr) : Obj :=
  { cls := .type "function", data := .func { name := (defO st).name, qualname := q, params := (defO st).params, body := .stmts (defO st).body, scope := (defO st).scope, globals := 3, closure := [], defaults := .none, kwdefaults := .none, pyModule := .str m t, code := .ref c } }
noncomputable def kvO (P : Params) (k : Str) (t : Tok) (v : Value) : DictEntry := { hash := PyData.keyHash P k, key := .str k t, val := v }
/-- the objects of the world that the walk looks at -/
noncomputable def heapK (P : Params) : Frag :=
  [(3, ({ cls := .type "dict", data := .dict #[kvO P (z "__name__") 165 (.str (z "law_nz0139_01") 416), kvO P (z "__doc__") 166 (.none), kvO P (z "__package__") 167 (.none), kvO P (z "__loader__") 168 (.builtin "__main__.__loader__#opaque"), kvO P (z "__spec__") 169 (.none), kvO P (z "__annotations__") 170 (.ref 6), kvO P (z "__builtins__") 171 (.ref 4), kvO P (z "__file__") 173 (.str (z "/claim/cut.py") 172), kvO P (z "__cached__") 174 (.none), kvO P (z "_wall") 193 (.ref 21), kvO P (z "is_number") 202 (.ref 28), kvO P (z "is_tuple_of") 210 (.ref 35), kvO P (z "are_same_sets") 218 (.ref 42), kvO P (z "without_doubles") 228 (.ref 49), kvO P (z "BOOL") 230 (.int 0 229), kvO P (z "FORMS") 242 (.ref 50), kvO P (z "StepChecker") 415 (.ref 176), kvO P (z "_law_next") 426 (.ref 187), kvO P (z "_law_clause") 432 (.ref 192), kvO P (z "_law_sets") 438 (.ref 197), kvO P (z "_law_linked") 450 (.ref 204), kvO P (z "_law_is_whole") 457 (.ref 211), kvO P (z "_law_word") 463 (.ref 216), kvO P (z "_law_step_word") 469 (.ref 221), kvO P (z "_law_follows") 475 (.ref 226), kvO P (z "_law_chain") 481 (.ref 231), kvO P (z "_law_bent_clause") 487 (.ref 236), kvO P (z "_law_bent") 503 (.ref 243), kvO P (z "_law_is_told") 518 (.ref 250), kvO P (z "_law_ahead") 534 (.ref 257), kvO P (z "law") 540 (.ref 262)] 31 } : Obj)),
   (27, ({ cls := .type "code", data := .fields #[.str (z "is_number") 196, .str (z "is_number") 197, .str (z "/claim/cut.py") 198, .int 5 0, .int 1 0, .int 0 0, .int 0 0, .int 3 0, .ref 22, .bool true, .int 181 0, .ref 23, .none, .ref 24, .ref 25, .ref 26, .int 200 0, .int 5 0, .str (z "/claim/cut.py") 201] } : Obj)),
   (28, (foO (stAt 2) (z "is_number") (z "minismt.judges") 194 27 : Obj)),
   (34, ({ cls := .type "code", data := .fields #[.str (z "is_tuple_of") 203, .str (z "is_tuple_of") 204, .str (z "/claim/cut.py") 205, .int 7 0, .int 2 0, .int 0 0, .int 0 0, .int 3 0, .ref 29, .bool true, .int 181 0, .ref 30, .none, .ref 31, .ref 32, .ref 33, .int 208 0, .int 7 0, .str (z "/claim/cut.py") 209] } : Obj)),
   (35, (foO (stAt 3) (z "is_tuple_of") (z "minismt.judges") 194 34 : Obj)),
   (41, ({ cls := .type "code", data := .fields #[.str (z "are_same_sets") 211, .str (z "are_same_sets") 212, .str (z "/claim/cut.py") 213, .int 9 0, .int 2 0, .int 0 0, .int 0 0, .int 3 0, .ref 36, .bool true, .int 181 0, .ref 37, .none, .ref 38, .ref 39, .ref 40, .int 216 0, .int 9 0, .str (z "/claim/cut.py") 217] } : Obj)),
   (42, (foO (stAt 4) (z "are_same_sets") (z "minismt.judges") 194 41 : Obj)),
   (63, ({ cls := .type "code", data := .fields #[.str (z "__init__") 255, .str (z "StepChecker.__init__") 256, .str (z "/claim/cut.py") 257, .int 25 0, .int 5 0, .int 0 0, .int 0 0, .int 3 0, .ref 58, .bool true, .int 181 0, .ref 59, .none, .ref 60, .ref 61, .ref 62, .int 263 0, .int 25 0, .str (z "/claim/cut.py") 264] } : Obj)),
   (64, (foO (mtAt 0) (z "StepChecker.__init__") (z "minismt.checker") 231 63 : Obj)),
   (89, ({ cls := .type "code", data := .fields #[.str (z "fault_of") 291, .str (z "StepChecker.fault_of") 292, .str (z "/claim/cut.py") 293, .int 40 0, .int 3 0, .int 0 0, .int 0 0, .int 3 0, .ref 86, .bool true, .int 181 0, .ref 87, .none, .none, .none, .ref 88, .int 294 0, .int 40 0, .str (z "/claim/cut.py") 295] } : Obj)),
   (90, (foO (mtAt 4) (z "StepChecker.fault_of") (z "minismt.checker") 231 89 : Obj)),
   (103, ({ cls := .type "code", data := .fields #[.str (z "is_clause") 308, .str (z "StepChecker.is_clause") 309, .str (z "/claim/cut.py") 310, .int 60 0, .int 2 0, .int 0 0, .int 0 0, .int 3 0, .ref 98, .bool true, .int 181 0, .ref 99, .none, .ref 100, .ref 101, .ref 102, .int 315 0, .int 60 0, .str (z "/claim/cut.py") 316] } : Obj)),
   (104, (foO (mtAt 6) (z "StepChecker.is_clause") (z "minismt.checker") 231 103 : Obj)),
   (148, ({ cls := .type "code", data := .fields #[.str (z "resolve_fault") 367, .str (z "StepChecker.resolve_fault") 368, .str (z "/claim/cut.py") 369, .int 95 0, .int 5 0, .int 0 0, .int 0 0, .int 3 0, .ref 145, .bool true, .int 181 0, .ref 146, .none, .none, .none, .ref 147, .int 370 0, .int 95 0, .str (z "/claim/cut.py") 371] } : Obj)),
   (149, (foO (mtAt 13) (z "StepChecker.resolve_fault") (z "minismt.checker") 231 148 : Obj)),
   (175, ({ cls := .type "dict", data := .dict #[kvO P (z "__module__") 250 (.str (z "minismt.checker") 231), kvO P (z "__firstlineno__") 254 (.int 23 253), kvO P (z "__init__") 265 (.ref 64), kvO P (z "look") 274 (.ref 71), kvO P (z "check") 282 (.ref 78), kvO P (z "is_end") 290 (.ref 85), kvO P (z "fault_of") 296 (.ref 90), kvO P (z "alone_fault") 307 (.ref 97), kvO P (z "is_clause") 317 (.ref 104), kvO P (z "is_term") 325 (.ref 111), kvO P (z "is_bool_term") 333 (.ref 118), kvO P (z "signed") 342 (.ref 125), kvO P (z "signed_literal") 351 (.ref 132), kvO P (z "signed_clause") 357 (.ref 137), kvO P (z "equality") 366 (.ref 144), kvO P (z "resolve_fault") 372 (.ref 149), kvO P (z "input_fault") 381 (.ref 156), kvO P (z "define_fault") 391 (.ref 163), kvO P (z "definition") 397 (.ref 168), kvO P (z "distinct_definition") 403 (.ref 173), kvO P (z "__static_attributes__") 408 (.ref 174), kvO P (z "__dict__") 410 (.ref 177), kvO P (z "__weakref__") 412 (.ref 178), kvO P (z "__doc__") 413 (.none)] 4 } : Obj)),
   (176, ({ cls := .type "type", data := .cls { name := z "StepChecker", bases := [.type "object"], mro := [.ref 176, .type "object"], ns := 175, qualname := z "StepChecker" }, slots := #[none, none, some (.str (z "StepChecker") 243), some (.str (z "StepChecker") 251), some (.builtin "object.__new__"), some (.bool true)] } : Obj)),
   (177, ({ cls := .type "getset_descriptor", data := .fields #[.str (z "__dict__") 409, .ref 176, .builtin "function.__dict__", .builtin "function.__dict__#set"] } : Obj)),
   (178, ({ cls := .type "getset_descriptor", data := .fields #[.str (z "__weakref__") 411, .ref 176, .builtin "ExceptionGroup.__weakref__", .none] } : Obj)),
   (186, ({ cls := .type "code", data := .fields #[.str (z "_law_next") 418, .str (z "_law_next") 419, .str (z "/claim/cut.py") 420, .int 167 0, .int 2 0, .int 0 0, .int 0 0, .int 3 0, .ref 181, .bool true, .int 181 0, .ref 182, .none, .ref 183, .ref 184, .ref 185, .int 424 0, .int 167 0, .str (z "/claim/cut.py") 425] } : Obj)),
   (187, (foO (stAt 11) (z "_law_next") (z "law_nz0139_01") 416 186 : Obj)),
   (191, ({ cls := .type "code", data := .fields #[.str (z "_law_clause") 427, .str (z "_law_clause") 428, .str (z "/claim/cut.py") 429, .int 173 0, .int 2 0, .int 0 0, .int 0 0, .int 3 0, .ref 188, .bool true, .int 181 0, .ref 189, .none, .none, .none, .ref 190, .int 430 0, .int 173 0, .str (z "/claim/cut.py") 431] } : Obj)),
   (192, (foO (stAt 12) (z "_law_clause") (z "law_nz0139_01") 416 191 : Obj)),
   (196, ({ cls := .type "code", data := .fields #[.str (z "_law_sets") 433, .str (z "_law_sets") 434, .str (z "/claim/cut.py") 435, .int 179 0, .int 1 0, .int 0 0, .int 0 0, .int 3 0, .ref 193, .bool true, .int 181 0, .ref 194, .none, .none, .none, .ref 195, .int 436 0, .int 179 0, .str (z "/claim/cut.py") 437] } : Obj)),
   (197, (foO (stAt 13) (z "_law_sets") (z "law_nz0139_01") 416 196 : Obj)),
   (203, ({ cls := .type "code", data := .fields #[.str (z "_law_linked") 439, .str (z "_law_linked") 440, .str (z "/claim/cut.py") 441, .int 181 0, .int 4 0, .int 0 0, .int 0 0, .int 3 0, .ref 198, .bool true, .int 181 0, .ref 199, .none, .ref 200, .ref 201, .ref 202, .int 448 0, .int 181 0, .str (z "/claim/cut.py") 449] } : Obj)),
   (204, (foO (stAt 14) (z "_law_linked") (z "law_nz0139_01") 416 203 : Obj)),
   (210, ({ cls := .type "code", data := .fields #[.str (z "_law_is_whole") 451, .str (z "_law_is_whole") 452, .str (z "/claim/cut.py") 453, .int 187 0, .int 1 0, .int 0 0, .int 0 0, .int 3 0, .ref 205, .bool true, .int 181 0, .ref 206, .none, .ref 207, .ref 208, .ref 209, .int 455 0, .int 187 0, .str (z "/claim/cut.py") 456] } : Obj)),
   (211, (foO (stAt 15) (z "_law_is_whole") (z "law_nz0139_01") 416 210 : Obj)),
   (215, ({ cls := .type "code", data := .fields #[.str (z "_law_word") 458, .str (z "_law_word") 459, .str (z "/claim/cut.py") 460, .int 189 0, .int 4 0, .int 0 0, .int 0 0, .int 3 0, .ref 212, .bool true, .int 181 0, .ref 213, .none, .none, .none, .ref 214, .int 461 0, .int 189 0, .str (z "/claim/cut.py") 462] } : Obj)),
   (216, (foO (stAt 16) (z "_law_word") (z "law_nz0139_01") 416 215 : Obj)),
   (220, ({ cls := .type "code", data := .fields #[.str (z "_law_step_word") 464, .str (z "_law_step_word") 465, .str (z "/claim/cut.py") 466, .int 202 0, .int 5 0, .int 0 0, .int 0 0, .int 3 0, .ref 217, .bool true, .int 181 0, .ref 218, .none, .none, .none, .ref 219, .int 467 0, .int 202 0, .str (z "/claim/cut.py") 468] } : Obj)),
   (221, (foO (stAt 17) (z "_law_step_word") (z "law_nz0139_01") 416 220 : Obj)),
   (225, ({ cls := .type "code", data := .fields #[.str (z "_law_follows") 470, .str (z "_law_follows") 471, .str (z "/claim/cut.py") 472, .int 209 0, .int 4 0, .int 0 0, .int 0 0, .int 3 0, .ref 222, .bool true, .int 181 0, .ref 223, .none, .none, .none, .ref 224, .int 473 0, .int 209 0, .str (z "/claim/cut.py") 474] } : Obj)),
   (226, (foO (stAt 18) (z "_law_follows") (z "law_nz0139_01") 416 225 : Obj)),
   (230, ({ cls := .type "code", data := .fields #[.str (z "_law_chain") 476, .str (z "_law_chain") 477, .str (z "/claim/cut.py") 478, .int 216 0, .int 3 0, .int 0 0, .int 0 0, .int 3 0, .ref 227, .bool true, .int 181 0, .ref 228, .none, .none, .none, .ref 229, .int 479 0, .int 216 0, .str (z "/claim/cut.py") 480] } : Obj)),
   (231, (foO (stAt 19) (z "_law_chain") (z "law_nz0139_01") 416 230 : Obj)),
   (235, ({ cls := .type "code", data := .fields #[.str (z "_law_bent_clause") 482, .str (z "_law_bent_clause") 483, .str (z "/claim/cut.py") 484, .int 235 0, .int 4 0, .int 0 0, .int 0 0, .int 3 0, .ref 232, .bool true, .int 181 0, .ref 233, .none, .none, .none, .ref 234, .int 485 0, .int 235 0, .str (z "/claim/cut.py") 486] } : Obj)),
   (236, (foO (stAt 20) (z "_law_bent_clause") (z "law_nz0139_01") 416 235 : Obj)),
   (242, ({ cls := .type "code", data := .fields #[.str (z "_law_bent") 488, .str (z "_law_bent") 489, .str (z "/claim/cut.py") 490, .int 248 0, .int 4 0, .int 0 0, .int 0 0, .int 3 0, .ref 237, .bool true, .int 181 0, .ref 238, .none, .ref 239, .ref 240, .ref 241, .int 501 0, .int 248 0, .str (z "/claim/cut.py") 502] } : Obj)),
   (243, (foO (stAt 21) (z "_law_bent") (z "law_nz0139_01") 416 242 : Obj)),
   (249, ({ cls := .type "code", data := .fields #[.str (z "_law_is_told") 504, .str (z "_law_is_told") 505, .str (z "/claim/cut.py") 506, .int 270 0, .int 4 0, .int 0 0, .int 0 0, .int 3 0, .ref 244, .bool true, .int 181 0, .ref 245, .none, .ref 246, .ref 247, .ref 248, .int 516 0, .int 270 0, .str (z "/claim/cut.py") 517] } : Obj)),
   (250, (foO (stAt 22) (z "_law_is_told") (z "law_nz0139_01") 416 249 : Obj)),
   (256, ({ cls := .type "code", data := .fields #[.str (z "_law_ahead") 519, .str (z "_law_ahead") 520, .str (z "/claim/cut.py") 521, .int 279 0, .int 4 0, .int 0 0, .int 0 0, .int 3 0, .ref 251, .bool true, .int 181 0, .ref 252, .none, .ref 253, .ref 254, .ref 255, .int 532 0, .int 279 0, .str (z "/claim/cut.py") 533] } : Obj)),
   (257, (foO (stAt 23) (z "_law_ahead") (z "law_nz0139_01") 416 256 : Obj)),
   (261, ({ cls := .type "code", data := .fields #[.str (z "law") 535, .str (z "law") 536, .str (z "/claim/cut.py") 537, .int 287 0, .int 1 0, .int 0 0, .int 0 0, .int 3 0, .ref 258, .bool true, .int 181 0, .ref 259, .none, .none, .none, .ref 260, .int 538 0, .int 287 0, .str (z "/claim/cut.py") 539] } : Obj)),
   (262, (foO (stAt 24) (z "law") (z "law_nz0139_01") 416 261 : Obj))]
noncomputable def asK : List Addr := [3, 27, 28, 34, 35, 41, 42, 63, 64, 89, 90, 103, 104, 148, 149, 175, 176, 177, 178, 186, 187, 191, 192, 196, 197, 203, 204, 210, 211, 215, 216, 220, 221, 225, 226, 230, 231, 235, 236, 242, 243, 249, 250, 256, 257, 261, 262]
noncomputable def lawD : DefRec := defO (stAt 24)
noncomputable abbrev hookK : Hook := kHook heapK asK (fun _ => by kernel_rfl)
noncomputable abbrev rowL : RowW := PySem.Challenge.rw_nz0139_01.row.toRowW
set_option maxHeartbeats 8000000
theorem said : PySem.Challenge.rw_nz0139_01.wellSaid = true := by kernel_rfl
theorem leftL : ∀ w, (openEnds treeTable PG w 2894).map (fun s => (openSeen view [] (importedModules PG.main.body) (fun s => xlAt view [] s && recOk (RowW.records rowL) s) true s, hookK.obs s)) = some (openGood view [], hookK.val w) := by
  intro w
  kernel_rfl
theorem hd (call : WalkO view [] (XL view []) hookK.says rowL lawD [] fun f vs => PySem.call f vs) : PySem.Challenge.rw_nz0139_01.Holds := by
  refine holds_law said fun said' => ?_
  refine holds_open (q := view) (loose := []) (Xt := fun s => xlAt view [] s && recOk (RowW.records rowL) s) (XP := XL view []) (Yf := hookK.obs) (Ya := hookK.val) (YP := hookK.says) (N := 2894) ?hl hookK.of hookK.keeps
    (fun s e => xl_of s (Bool.and_eq_true_iff.mp e).1) XL.keeps ?hdef (by kernel_rfl) (by kernel_rfl) (fun s e => recFacts_of (Bool.and_eq_true_iff.mp e).2) (by rfl) said' (by decide +kernel) ⟨rfl, rfl, rfl, rfl, rfl, by decide +kernel⟩ ?hw call
  case hl => exact leftL
  case hdef => kernel_rfl
  case hw => w_witness2
end
end Mine

/- part RA -/
namespace Mine
noncomputable section
open PySem PySem.W PySem.Calls PyProof.Rows

noncomputable def bodyOf : Stmt → List Stmt
  | .FunctionDef _ _ body _ _ _ _ _ _ _ => body
  | _ => []
noncomputable def scopeOf : Stmt → Option Scope
  | .FunctionDef _ _ _ _ _ _ scope _ _ _ => some scope
  | _ => none
noncomputable abbrev HK (p : Params) : Frag := heapK p
noncomputable def oAt (p : Params) (a : Addr) : Obj := ((HK p).lookup a).getD { cls := .none, data := .plain }
noncomputable def fdAt (p : Params) (a : Addr) : FuncData := match (oAt p a).data with | .func fd => fd | _ => default
noncomputable def vsAt (p : Params) (a : Addr) : Array Value := match (oAt p a).data with | .fields vs => vs | _ => #[]
noncomputable def tokAt (p : Params) (a : Addr) : Tok := match (vsAt p a).getD 1 Value.none with | Value.str _ t => t | _ => 0
theorem len1 {vals : List Value} (h : vals.length = 1) : ∃ a, vals = [a] := List.length_eq_one_iff.mp h
theorem len2 {vals : List Value} (h : vals.length = 2) : ∃ a b, vals = [a, b] := by
  obtain ⟨a, r, rfl⟩ := List.exists_cons_of_length_eq_add_one h
  obtain ⟨b, rfl⟩ := len1 (Nat.succ.inj h)
  exact ⟨a, b, rfl⟩
theorem len3 {vals : List Value} (h : vals.length = 3) : ∃ a b c, vals = [a, b, c] := by
  obtain ⟨a, r, rfl⟩ := List.exists_cons_of_length_eq_add_one h
  obtain ⟨b, c, rfl⟩ := len2 (Nat.succ.inj h)
  exact ⟨a, b, c, rfl⟩
theorem len4 {vals : List Value} (h : vals.length = 4) : ∃ a b c d, vals = [a, b, c, d] := by
  obtain ⟨a, r, rfl⟩ := List.exists_cons_of_length_eq_add_one h
  obtain ⟨b, c, d, rfl⟩ := len3 (Nat.succ.inj h)
  exact ⟨a, b, c, d, rfl⟩
theorem len5 {vals : List Value} (h : vals.length = 5) : ∃ a b c d e, vals = [a, b, c, d, e] := by
  obtain ⟨a, r, rfl⟩ := List.exists_cons_of_length_eq_add_one h
  obtain ⟨b, c, d, e, rfl⟩ := len4 (Nat.succ.inj h)
  exact ⟨a, b, c, d, e, rfl⟩
theorem fn_gen {B : Bs} (hK : B.K = HK B.w.params) {a c : Addr} {t : Tok} {ps : List Str} {body : List Stmt} {sc : Scope} (h1 : (HK B.w.params).lookup a = some (oAt B.w.params a)) (h2 : (oAt B.w.params a).data = .func (fdAt B.w.params a))
    (h3 : (fdAt B.w.params a).body = .stmts body) (h4 : (fdAt B.w.params a).scope = sc) (h5 : (fdAt B.w.params a).globals = mainGlobals) (h6 : (fdAt B.w.params a).closure = []) (h7 : (fdAt B.w.params a).builtins = builtinsNs)
    (h8 : (fdAt B.w.params a).code = .ref c) (h9 : (HK B.w.params).lookup c = some (oAt B.w.params c)) (h10 : (oAt B.w.params c).data = .fields (vsAt B.w.params c)) (h11 : (vsAt B.w.params c)[1]? = some (.str (fdAt B.w.params a).qualname t))
    (h12 : ∀ vals : List Value, vals.length = ps.length → bindArgs (fdAt B.w.params a) ⟨vals, []⟩ = pure (ps.zip vals)) : FnAt B a ps body sc :=
  ⟨⟨oAt B.w.params a, fdAt B.w.params a, B.KX _ _ (by rw [hK]; exact h1), h2, h3, h4, h5, h6, h7, ⟨c, oAt B.w.params c, vsAt B.w.params c, t, h8, B.KX _ _ (by rw [hK]; exact h9), h10, h11⟩, h12⟩⟩

noncomputable def b_is_number : List Stmt := bodyOf (stAt 2)
noncomputable def s_is_number : Scope := (scopeOf (stAt 2)).getD default
theorem fn_is_number {B : Bs} (hK : B.K = HK B.w.params) : FnAt B 28 ["thing"] b_is_number s_is_number :=
  fn_gen (t := tokAt B.w.params 27) hK (c := 27) (by kernel_rfl) (by kernel_rfl) (by kernel_rfl) (by kernel_rfl) (by kernel_rfl) (by kernel_rfl) (by kernel_rfl) (by kernel_rfl) (by kernel_rfl) (by kernel_rfl) (by kernel_rfl) fun vals h => by
    obtain ⟨a, rfl⟩ := len1 h
    kernel_rfl

noncomputable def b_is_tuple_of : List Stmt := bodyOf (stAt 3)
noncomputable def s_is_tuple_of : Scope := (scopeOf (stAt 3)).getD default
theorem fn_is_tuple_of {B : Bs} (hK : B.K = HK B.w.params) : FnAt B 35 ["thing", "many"] b_is_tuple_of s_is_tuple_of :=
  fn_gen (t := tokAt B.w.params 34) hK (c := 34) (by kernel_rfl) (by kernel_rfl) (by kernel_rfl) (by kernel_rfl) (by kernel_rfl) (by kernel_rfl) (by kernel_rfl) (by kernel_rfl) (by kernel_rfl) (by kernel_rfl) (by kernel_rfl) fun vals h => by
    obtain ⟨a, b, rfl⟩ := len2 h
    kernel_rfl

noncomputable def b_are_same_sets : List Stmt := bodyOf (stAt 4)
noncomputable def s_are_same_sets : Scope := (scopeOf (stAt 4)).getD default
theorem fn_are_same_sets {B : Bs} (hK : B.K = HK B.w.params) : FnAt B 42 ["one", "other"] b_are_same_sets s_are_same_sets :=
  fn_gen (t := tokAt B.w.params 41) hK (c := 41) (by kernel_rfl) (by kernel_rfl) (by kernel_rfl) (by kernel_rfl) (by kernel_rfl) (by kernel_rfl) (by kernel_rfl) (by kernel_rfl) (by kernel_rfl) (by kernel_rfl) (by kernel_rfl) fun vals h => by
    obtain ⟨a, b, rfl⟩ := len2 h
    kernel_rfl

noncomputable def b_init : List Stmt := bodyOf (mtAt 0)
noncomputable def s_init : Scope := (scopeOf (mtAt 0)).getD default
theorem fn_init {B : Bs} (hK : B.K = HK B.w.params) : FnAt B 64 ["self", "bank", "names", "assertions", "assumptions"] b_init s_init :=
  fn_gen (t := tokAt B.w.params 63) hK (c := 63) (by kernel_rfl) (by kernel_rfl) (by kernel_rfl) (by kernel_rfl) (by kernel_rfl) (by kernel_rfl) (by kernel_rfl) (by kernel_rfl) (by kernel_rfl) (by kernel_rfl) (by kernel_rfl) fun vals h => by
    obtain ⟨a, b, c, d, e, rfl⟩ := len5 h
    kernel_rfl

noncomputable def b_fault_of : List Stmt := bodyOf (mtAt 4)
noncomputable def s_fault_of : Scope := (scopeOf (mtAt 4)).getD default
theorem fn_fault_of {B : Bs} (hK : B.K = HK B.w.params) : FnAt B 90 ["self", "steps", "number"] b_fault_of s_fault_of :=
  fn_gen (t := tokAt B.w.params 89) hK (c := 89) (by kernel_rfl) (by kernel_rfl) (by kernel_rfl) (by kernel_rfl) (by kernel_rfl) (by kernel_rfl) (by kernel_rfl) (by kernel_rfl) (by kernel_rfl) (by kernel_rfl) (by kernel_rfl) fun vals h => by
    obtain ⟨a, b, c, rfl⟩ := len3 h
    kernel_rfl

noncomputable def b_is_clause : List Stmt := bodyOf (mtAt 6)
noncomputable def s_is_clause : Scope := (scopeOf (mtAt 6)).getD default
theorem fn_is_clause {B : Bs} (hK : B.K = HK B.w.params) : FnAt B 104 ["self", "clause"] b_is_clause s_is_clause :=
  fn_gen (t := tokAt B.w.params 103) hK (c := 103) (by kernel_rfl) (by kernel_rfl) (by kernel_rfl) (by kernel_rfl) (by kernel_rfl) (by kernel_rfl) (by kernel_rfl) (by kernel_rfl) (by kernel_rfl) (by kernel_rfl) (by kernel_rfl) fun vals h => by
    obtain ⟨a, b, rfl⟩ := len2 h
    kernel_rfl

noncomputable def b_resolve_fault : List Stmt := bodyOf (mtAt 13)
noncomputable def s_resolve_fault : Scope := (scopeOf (mtAt 13)).getD default
theorem fn_resolve_fault {B : Bs} (hK : B.K = HK B.w.params) : FnAt B 149 ["self", "steps", "clause", "premises", "note"] b_resolve_fault s_resolve_fault :=
  fn_gen (t := tokAt B.w.params 148) hK (c := 148) (by kernel_rfl) (by kernel_rfl) (by kernel_rfl) (by kernel_rfl) (by kernel_rfl) (by kernel_rfl) (by kernel_rfl) (by kernel_rfl) (by kernel_rfl) (by kernel_rfl) (by kernel_rfl) fun vals h => by
    obtain ⟨a, b, c, d, e, rfl⟩ := len5 h
    kernel_rfl

noncomputable def b_law_next : List Stmt := bodyOf (stAt 11)
noncomputable def s_law_next : Scope := (scopeOf (stAt 11)).getD default
theorem fn_law_next {B : Bs} (hK : B.K = HK B.w.params) : FnAt B 187 ["feed", "wide"] b_law_next s_law_next :=
  fn_gen (t := tokAt B.w.params 186) hK (c := 186) (by kernel_rfl) (by kernel_rfl) (by kernel_rfl) (by kernel_rfl) (by kernel_rfl) (by kernel_rfl) (by kernel_rfl) (by kernel_rfl) (by kernel_rfl) (by kernel_rfl) (by kernel_rfl) fun vals h => by
    obtain ⟨a, b, rfl⟩ := len2 h
    kernel_rfl

noncomputable def b_law_clause : List Stmt := bodyOf (stAt 12)
noncomputable def s_law_clause : Scope := (scopeOf (stAt 12)).getD default
theorem fn_law_clause {B : Bs} (hK : B.K = HK B.w.params) : FnAt B 192 ["feed", "many"] b_law_clause s_law_clause :=
  fn_gen (t := tokAt B.w.params 191) hK (c := 191) (by kernel_rfl) (by kernel_rfl) (by kernel_rfl) (by kernel_rfl) (by kernel_rfl) (by kernel_rfl) (by kernel_rfl) (by kernel_rfl) (by kernel_rfl) (by kernel_rfl) (by kernel_rfl) fun vals h => by
    obtain ⟨a, b, rfl⟩ := len2 h
    kernel_rfl

noncomputable def b_law_sets : List Stmt := bodyOf (stAt 13)
noncomputable def s_law_sets : Scope := (scopeOf (stAt 13)).getD default
theorem fn_law_sets {B : Bs} (hK : B.K = HK B.w.params) : FnAt B 197 ["clause"] b_law_sets s_law_sets :=
  fn_gen (t := tokAt B.w.params 196) hK (c := 196) (by kernel_rfl) (by kernel_rfl) (by kernel_rfl) (by kernel_rfl) (by kernel_rfl) (by kernel_rfl) (by kernel_rfl) (by kernel_rfl) (by kernel_rfl) (by kernel_rfl) (by kernel_rfl) fun vals h => by
    obtain ⟨a, rfl⟩ := len1 h
    kernel_rfl

noncomputable def b_law_linked : List Stmt := bodyOf (stAt 14)
noncomputable def s_law_linked : Scope := (scopeOf (stAt 14)).getD default
theorem fn_law_linked {B : Bs} (hK : B.K = HK B.w.params) : FnAt B 204 ["ups", "downs", "pivot", "clause"] b_law_linked s_law_linked :=
  fn_gen (t := tokAt B.w.params 203) hK (c := 203) (by kernel_rfl) (by kernel_rfl) (by kernel_rfl) (by kernel_rfl) (by kernel_rfl) (by kernel_rfl) (by kernel_rfl) (by kernel_rfl) (by kernel_rfl) (by kernel_rfl) (by kernel_rfl) fun vals h => by
    obtain ⟨a, b, c, d, rfl⟩ := len4 h
    kernel_rfl

noncomputable def b_law_is_whole : List Stmt := bodyOf (stAt 15)
noncomputable def s_law_is_whole : Scope := (scopeOf (stAt 15)).getD default
theorem fn_law_is_whole {B : Bs} (hK : B.K = HK B.w.params) : FnAt B 211 ["thing"] b_law_is_whole s_law_is_whole :=
  fn_gen (t := tokAt B.w.params 210) hK (c := 210) (by kernel_rfl) (by kernel_rfl) (by kernel_rfl) (by kernel_rfl) (by kernel_rfl) (by kernel_rfl) (by kernel_rfl) (by kernel_rfl) (by kernel_rfl) (by kernel_rfl) (by kernel_rfl) fun vals h => by
    obtain ⟨a, rfl⟩ := len1 h
    kernel_rfl

noncomputable def b_law_word : List Stmt := bodyOf (stAt 16)
noncomputable def s_law_word : Scope := (scopeOf (stAt 16)).getD default
theorem fn_law_word {B : Bs} (hK : B.K = HK B.w.params) : FnAt B 216 ["steps", "clause", "premises", "note"] b_law_word s_law_word :=
  fn_gen (t := tokAt B.w.params 215) hK (c := 215) (by kernel_rfl) (by kernel_rfl) (by kernel_rfl) (by kernel_rfl) (by kernel_rfl) (by kernel_rfl) (by kernel_rfl) (by kernel_rfl) (by kernel_rfl) (by kernel_rfl) (by kernel_rfl) fun vals h => by
    obtain ⟨a, b, c, d, rfl⟩ := len4 h
    kernel_rfl

noncomputable def b_law_step_word : List Stmt := bodyOf (stAt 17)
noncomputable def s_law_step_word : Scope := (scopeOf (stAt 17)).getD default
theorem fn_law_step_word {B : Bs} (hK : B.K = HK B.w.params) : FnAt B 221 ["steps", "clause", "premises", "note", "many"] b_law_step_word s_law_step_word :=
  fn_gen (t := tokAt B.w.params 220) hK (c := 220) (by kernel_rfl) (by kernel_rfl) (by kernel_rfl) (by kernel_rfl) (by kernel_rfl) (by kernel_rfl) (by kernel_rfl) (by kernel_rfl) (by kernel_rfl) (by kernel_rfl) (by kernel_rfl) fun vals h => by
    obtain ⟨a, b, c, d, e, rfl⟩ := len5 h
    kernel_rfl

noncomputable def b_law_follows : List Stmt := bodyOf (stAt 18)
noncomputable def s_law_follows : Scope := (scopeOf (stAt 18)).getD default
theorem fn_law_follows {B : Bs} (hK : B.K = HK B.w.params) : FnAt B 226 ["steps", "clause", "premises", "many"] b_law_follows s_law_follows :=
  fn_gen (t := tokAt B.w.params 225) hK (c := 225) (by kernel_rfl) (by kernel_rfl) (by kernel_rfl) (by kernel_rfl) (by kernel_rfl) (by kernel_rfl) (by kernel_rfl) (by kernel_rfl) (by kernel_rfl) (by kernel_rfl) (by kernel_rfl) fun vals h => by
    obtain ⟨a, b, c, d, rfl⟩ := len4 h
    kernel_rfl

noncomputable def b_law_chain : List Stmt := bodyOf (stAt 19)
noncomputable def s_law_chain : Scope := (scopeOf (stAt 19)).getD default
theorem fn_law_chain {B : Bs} (hK : B.K = HK B.w.params) : FnAt B 231 ["feed", "steps", "many"] b_law_chain s_law_chain :=
  fn_gen (t := tokAt B.w.params 230) hK (c := 230) (by kernel_rfl) (by kernel_rfl) (by kernel_rfl) (by kernel_rfl) (by kernel_rfl) (by kernel_rfl) (by kernel_rfl) (by kernel_rfl) (by kernel_rfl) (by kernel_rfl) (by kernel_rfl) fun vals h => by
    obtain ⟨a, b, c, rfl⟩ := len3 h
    kernel_rfl

noncomputable def b_law_bent_clause : List Stmt := bodyOf (stAt 20)
noncomputable def s_law_bent_clause : Scope := (scopeOf (stAt 20)).getD default
theorem fn_law_bent_clause {B : Bs} (hK : B.K = HK B.w.params) : FnAt B 236 ["feed", "clause", "way", "many"] b_law_bent_clause s_law_bent_clause :=
  fn_gen (t := tokAt B.w.params 235) hK (c := 235) (by kernel_rfl) (by kernel_rfl) (by kernel_rfl) (by kernel_rfl) (by kernel_rfl) (by kernel_rfl) (by kernel_rfl) (by kernel_rfl) (by kernel_rfl) (by kernel_rfl) (by kernel_rfl) fun vals h => by
    obtain ⟨a, b, c, d, rfl⟩ := len4 h
    kernel_rfl

noncomputable def b_law_bent : List Stmt := bodyOf (stAt 21)
noncomputable def s_law_bent : Scope := (scopeOf (stAt 21)).getD default
theorem fn_law_bent {B : Bs} (hK : B.K = HK B.w.params) : FnAt B 243 ["feed", "chain", "size", "many"] b_law_bent s_law_bent :=
  fn_gen (t := tokAt B.w.params 242) hK (c := 242) (by kernel_rfl) (by kernel_rfl) (by kernel_rfl) (by kernel_rfl) (by kernel_rfl) (by kernel_rfl) (by kernel_rfl) (by kernel_rfl) (by kernel_rfl) (by kernel_rfl) (by kernel_rfl) fun vals h => by
    obtain ⟨a, b, c, d, rfl⟩ := len4 h
    kernel_rfl

noncomputable def b_law_is_told : List Stmt := bodyOf (stAt 22)
noncomputable def s_law_is_told : Scope := (scopeOf (stAt 22)).getD default
theorem fn_law_is_told {B : Bs} (hK : B.K = HK B.w.params) : FnAt B 250 ["judge", "steps", "chain", "many"] b_law_is_told s_law_is_told :=
  fn_gen (t := tokAt B.w.params 249) hK (c := 249) (by kernel_rfl) (by kernel_rfl) (by kernel_rfl) (by kernel_rfl) (by kernel_rfl) (by kernel_rfl) (by kernel_rfl) (by kernel_rfl) (by kernel_rfl) (by kernel_rfl) (by kernel_rfl) fun vals h => by
    obtain ⟨a, b, c, d, rfl⟩ := len4 h
    kernel_rfl

noncomputable def b_law_ahead : List Stmt := bodyOf (stAt 23)
noncomputable def s_law_ahead : Scope := (scopeOf (stAt 23)).getD default
theorem fn_law_ahead {B : Bs} (hK : B.K = HK B.w.params) : FnAt B 257 ["judge", "steps", "chain", "many"] b_law_ahead s_law_ahead :=
  fn_gen (t := tokAt B.w.params 256) hK (c := 256) (by kernel_rfl) (by kernel_rfl) (by kernel_rfl) (by kernel_rfl) (by kernel_rfl) (by kernel_rfl) (by kernel_rfl) (by kernel_rfl) (by kernel_rfl) (by kernel_rfl) (by kernel_rfl) fun vals h => by
    obtain ⟨a, b, c, d, rfl⟩ := len4 h
    kernel_rfl

end
end Mine

/- part RB -/
namespace Mine
noncomputable section
open PySem PySem.W PySem.Calls PyProof.Rows

structure Ok (B : Bs) : Prop where
  hK : B.K = HK B.w.params
  cl : B.C.cl = 176
noncomputable def esAt (p : Params) (a : Addr) : Array DictEntry := match (oAt p a).data with | .dict es _ => es | _ => #[]
theorem mg_is {B : Bs} (G : Ok B) (x : Str) : B.mg x = nsFind (esAt B.w.params 3) x := by
  obtain ⟨o, es, ep, ho, hd, _, hf⟩ := B.T.g
  have h3 : (HK B.w.params).lookup mainGlobals = some (oAt B.w.params 3) := by kernel_rfl
  have := B.KX _ _ (by rw [G.hK]; exact h3)
  rw [this] at ho
  cases ho
  have e : esAt B.w.params 3 = es := by unfold esAt; rw [hd]
  rw [e]; exact (hf x).symm
theorem gUser {B : Bs} (G : Ok B) {x : Str} {v : Value} (h : nsFind (esAt B.w.params 3) x = some v) : B.Glob x v := .inl ((mg_is G x).trans h)
theorem gBlt {B : Bs} (G : Ok B) {x : Str} {v : Value} (h : nsFind (esAt B.w.params 3) x = none) (hn : x ≠ "__name__") (hb : bootBuiltins x = some v) : B.Glob x v := .inr ⟨(mg_is G x).trans h, (B.T.builtins x hn).trans hb⟩

section
variable {B : Bs} {A : Around} {env : Env} {ρ : Vs} {δ δ' : Ds} {Q : MV → Ds → Prop}
theorem Ev.globT {x : Str} {T : String} {p : Pos} (O : EnvOk env) (hk : env.kindOf x = some .globalImplicit) (hg : B.Glob x (.type T)) (h : Q (.typ T) δ) (hd : (x == ("__debug__" : Str)) = false := by decide) : Ev B A env (eval (.Name x p) env) ρ δ Q := fun X I tk =>
  evGlob O hk hg X ⟨X, tk, rfl, Le.refl _ _, .typ T, δ, h, rfl, I, NewDom.refl _ _⟩ hd
end

/-- what a note may hold -/
inductive Small : MV → Prop
  | int (i) : Small (.int i)
  | bool (b) : Small (.bool b)
  | str (s) (h : PyData.strOk s = true) : Small (.str s)
  | none : Small .none
noncomputable def isNum : MV → Bool
  | .int _ => true
  | _ => false
noncomputable def isIntB : MV → Bool
  | .int _ => true
  | .bool _ => true
  | _ => false
section
variable {B : Bs} {A : Around} {δ : Ds} {n : Nat} {P : MV → Prop} {m : MV}
theorem isiInt (hm : Small m) (h : P (.bool (isIntB m))) : Cq B A (.builtin "isinstance") [m, .typ "int"] P := by
  cases hm with
  | int i => exact isi_ii h
  | bool b => exact isi_bi h
  | str s hs => exact isi_si h
  | none => exact isi_ni h
theorem isiBool (hm : isIntB m = true) (h : P (.bool (!isNum m))) : Cq B A (.builtin "isinstance") [m, .typ "bool"] P := by
  cases m with
  | int i => exact isi_ib h
  | bool b => exact isi_bb h
  | _ => cases hm
end
section
variable {B : Bs} (G : Ok B)
include G
theorem g_isinstance : B.Glob "isinstance" (.builtin "isinstance") := gBlt G (by kernel_rfl) (by decide) (by kernel_rfl)
theorem g_len : B.Glob "len" (.builtin "len") := gBlt G (by kernel_rfl) (by decide) (by kernel_rfl)
theorem g_sorted : B.Glob "sorted" (.builtin "sorted") := gBlt G (by kernel_rfl) (by decide) (by kernel_rfl)
theorem g_abs : B.Glob "abs" (.builtin "abs") := gBlt G (by kernel_rfl) (by decide) (by kernel_rfl)
theorem g_int : B.Glob "int" (.type "int") := gBlt G (by kernel_rfl) (by decide) (by kernel_rfl)
theorem g_bool : B.Glob "bool" (.type "bool") := gBlt G (by kernel_rfl) (by decide) (by kernel_rfl)
theorem g_str : B.Glob "str" (.type "str") := gBlt G (by kernel_rfl) (by decide) (by kernel_rfl)
theorem g_tuple : B.Glob "tuple" (.type "tuple") := gBlt G (by kernel_rfl) (by decide) (by kernel_rfl)
theorem g_list : B.Glob "list" (.type "list") := gBlt G (by kernel_rfl) (by decide) (by kernel_rfl)
theorem g_set : B.Glob "set" (.type "set") := gBlt G (by kernel_rfl) (by decide) (by kernel_rfl)
theorem g_range : B.Glob "range" (.type "range") := gBlt G (by kernel_rfl) (by decide) (by kernel_rfl)
theorem g_zip : B.Glob "zip" (.type "zip") := gBlt G (by kernel_rfl) (by decide) (by kernel_rfl)
theorem g_is_number : B.Glob "is_number" (.ref 28) := gUser G (by kernel_rfl)
theorem g_is_tuple_of : B.Glob "is_tuple_of" (.ref 35) := gUser G (by kernel_rfl)
theorem g_are_same_sets : B.Glob "are_same_sets" (.ref 42) := gUser G (by kernel_rfl)
theorem g_law_next : B.Glob "_law_next" (.ref 187) := gUser G (by kernel_rfl)
theorem g_law_clause : B.Glob "_law_clause" (.ref 192) := gUser G (by kernel_rfl)
theorem g_law_sets : B.Glob "_law_sets" (.ref 197) := gUser G (by kernel_rfl)
theorem g_law_linked : B.Glob "_law_linked" (.ref 204) := gUser G (by kernel_rfl)
theorem g_law_is_whole : B.Glob "_law_is_whole" (.ref 211) := gUser G (by kernel_rfl)
theorem g_law_word : B.Glob "_law_word" (.ref 216) := gUser G (by kernel_rfl)
theorem g_law_step_word : B.Glob "_law_step_word" (.ref 221) := gUser G (by kernel_rfl)
theorem g_law_follows : B.Glob "_law_follows" (.ref 226) := gUser G (by kernel_rfl)
theorem g_law_chain : B.Glob "_law_chain" (.ref 231) := gUser G (by kernel_rfl)
theorem g_law_bent_clause : B.Glob "_law_bent_clause" (.ref 236) := gUser G (by kernel_rfl)
theorem g_law_bent : B.Glob "_law_bent" (.ref 243) := gUser G (by kernel_rfl)
theorem g_law_is_told : B.Glob "_law_is_told" (.ref 250) := gUser G (by kernel_rfl)
theorem g_law_ahead : B.Glob "_law_ahead" (.ref 257) := gUser G (by kernel_rfl)
theorem g_StepChecker : B.Glob "StepChecker" (.ref 176) := gUser G (by kernel_rfl)
end
theorem FnAt.kpo {B : Bs} {a : Addr} {ps : List Str} {body : List Stmt} {sc : Scope} (F : FnAt B a ps body sc) : Kp B (.ref a) := F.kp

end
end Mine

/- part RC -/
namespace Mine
noncomputable section
open PySem PySem.W PySem.Calls PyProof.Rows

/-- what a def's text says of its frame -/
noncomputable def defOk (ps : List Str) (k : Nat) (sc : Scope) : Bool :=
  ps.length == k && decide (sc.kind = .function) && !sc.isCoroutine && !sc.isGenerator && decide ps.Nodup && decide (((cellsFrom 0 sc.names []).map (·.1)).Nodup) &&
    ps.all fun x => decide (sc.names.lookup x = some .local) || (decide (sc.names.lookup x = some .cell) && decide (x ∈ (cellsFrom 0 sc.names []).map (·.1)))
noncomputable def FnPost (P : MV → Prop) : MF → Vs → Ds → Prop := fun f _ _ => match f with
  | .ret m => P m
  | .next => P .none
  | _ => False
theorem lookup_isSome {x : Str} : ∀ {l : List (Str × Addr)}, x ∈ l.map (·.1) → (l.lookup x).isSome = true
  | (y, a) :: r, h => by
    rw [List.lookup_cons]
    cases hb : x == y with
    | true => rfl
    | false =>
      rw [List.map_cons] at h
      rcases List.mem_cons.mp h with q | q
      · rw [q] at hb; simp at hb
      · exact lookup_isSome q
section
variable {B : Bs} {A : Around} {env : Env} {ρ : Vs} {δ δ' : Ds} {n : Nat}
theorem Co.fn {a : Addr} {ps : List Str} {body : List Stmt} {sc : Scope} {ms : List MV} {Q : MV → Ds → Prop} (F : FnAt B a ps body sc) (hA : AOk (n + 1) A) (chk : defOk ps ms.length sc = true)
    (h : ∀ A' L qual code, AOk n A' → EnvOk (fEnv sc L qual a code) → CodeAt B code → Ex B A' (fEnv sc L qual a code) (execs body (fEnv sc L qual a code)) (ps.zip ms) δ (FnQ δ Q)) : Co B A (.ref a) ms δ Q := by
  unfold defOk at chk
  simp only [Bool.and_eq_true, decide_eq_true_eq, Bool.not_eq_true', beq_iff_eq] at chk
  obtain ⟨⟨⟨⟨⟨⟨h1, h2⟩, h3⟩, h4⟩, h5⟩, h6⟩, h7⟩ := chk
  refine Co.def_ F hA h1 h2 h3 h4 h5 (fun L x hx => ?_) h6 h
  have := List.all_eq_true.mp h7 x hx
  simp only [Bool.or_eq_true, Bool.and_eq_true, decide_eq_true_eq] at this
  rcases this with q | ⟨q, q'⟩
  · exact .inl q
  · refine .inr ⟨q, lookup_isSome ?_⟩
    rw [← PyProof.Rows.cellsFrom_names sc.names 0 (L + 1) [] [] rfl]
    exact q'
/-- a call that has to do with no dict -/
theorem Co.fn0 {a : Addr} {ps : List Str} {body : List Stmt} {sc : Scope} {ms : List MV} {P : MV → Prop} (F : FnAt B a ps body sc) (hA : AOk (n + 1) A) (chk : defOk ps ms.length sc = true)
    (h : ∀ A' L qual code, AOk n A' → EnvOk (fEnv sc L qual a code) → CodeAt B code → Ex B A' (fEnv sc L qual a code) (execs body (fEnv sc L qual a code)) (ps.zip ms) [] (FnPost P)) :
    Co B A (.ref a) ms δ (fun m δ' => P m ∧ δ' = δ) :=
  Co.frame0 ((Co.fn (Q := fun m _ => P m) F hA chk fun A' L qual code hA' O hC => (h A' L qual code hA' O hC).mono fun f ρ' δ' q => by
    refine ⟨[], δ', rfl, rfl, ?_⟩
    cases f <;> exact q).mono fun m δ' _ q => ⟨q, rfl⟩)
theorem CpOk.filt {α : Type} {cenv : Env} {x : Str} {test elt : Expr} {ρc : Vs} {Q : List MV → Ds → Prop} (w : α → MV) (f : α → Bool) (g : α → MV) : ∀ (l : List α) (acc : List MV),
    (∀ a ∈ l, Et B A cenv (isTrue test cenv (eval test cenv)) (setv ρc x (w a)) δ fun b δ₁ => δ₁ = δ ∧ b = f a) → (∀ a ∈ l, f a = true → Ev B A cenv (eval elt cenv) (setv ρc x (w a)) δ fun y δ₁ => δ₁ = δ ∧ y = g a) →
    Q (acc ++ (l.filter f).map g) δ → CpOk B A cenv x [test] elt ρc Q (l.map w) acc δ
  | [], acc, _, _, q => by
    show Q acc δ
    rw [List.filter_nil, List.map_nil, List.append_nil] at q
    exact q
  | a :: l, acc, h1, h2, q => by
    have ih := fun acc' => CpOk.filt (Q := Q) (elt := elt) w f g l acc' (fun b hb => h1 b (List.mem_cons_of_mem _ hb)) (fun b hb => h2 b (List.mem_cons_of_mem _ hb))
    show Et B A cenv _ _ _ _
    refine (h1 a List.mem_cons_self).mono fun b δ₁ ⟨e, eb⟩ => ?_
    subst e eb
    cases hf : f a with
    | false =>
      rw [List.filter_cons, hf] at q
      exact ih acc q
    | true =>
      rw [List.filter_cons, hf] at q
      simp only [if_true]
      refine (h2 a List.mem_cons_self hf).mono fun y δ₁ ⟨e, ey⟩ => ?_
      subst e ey
      exact ih _ (by simpa using q)
theorem CpOk.map_ {α : Type} {cenv : Env} {x : Str} {elt : Expr} {ρc : Vs} {Q : List MV → Ds → Prop} (w : α → MV) (g : α → MV) : ∀ (l : List α) (acc : List MV),
    (∀ a ∈ l, Ev B A cenv (eval elt cenv) (setv ρc x (w a)) δ fun y δ₁ => δ₁ = δ ∧ y = g a) → Q (acc ++ l.map g) δ → CpOk B A cenv x [] elt ρc Q (l.map w) acc δ
  | [], acc, _, q => by
    show Q acc δ
    rw [List.map_nil, List.append_nil] at q
    exact q
  | a :: l, acc, h2, q => by
    have ih := fun acc' => CpOk.map_ (Q := Q) w g l acc' (fun b hb => h2 b (List.mem_cons_of_mem _ hb))
    show Ev B A cenv _ _ _ _
    refine (h2 a List.mem_cons_self).mono fun y δ₁ ⟨e, ey⟩ => ?_
    subst e ey
    exact ih _ (by simpa using q)
theorem Ev.comp' {elt iter : Expr} {x : Str} {xp : Pos} {ifs : List Expr} {scope : Scope} {pos : Pos} {Q : MV → Ds → Prop} (O : EnvOk env) (hA : A.handled = none) (K : cmpOk scope env x = true)
    (h : Ev B A env (eval iter env) ρ δ fun m δ₁ => ∃ R, It B A δ₁ m R ∧ ∀ items, R items → items.length ≤ sizeLine ∧ ∀ C, EnvOk (cEnv scope C env) → CpOk B A (cEnv scope C env) x ifs elt (freeVs scope ρ) (fun ms δ' => Q (.lst ms) δ') items [] δ₁)
    (hs : ∀ v, foldedSetIterable iter env v = pure v := by intro _; rfl) : Ev B A env (eval (.ListComp elt [⟨.Name x xp, iter, ifs, 0⟩] scope pos) env) ρ δ Q :=
  Ev.comp O hA (CmpOk.of K) (h.mono fun m δ₁ ⟨R, hit, k⟩ => ⟨R, hit, fun items hR => ⟨(k items hR).1, fun C => (k items hR).2 C (O.comp (CmpOk.of K))⟩⟩) hs
theorem Ex.assignComp' {elt iter : Expr} {x y : Str} {xp py : Pos} {ifs : List Expr} {scope : Scope} {pos spos : Pos} {Q : MF → Vs → Ds → Prop} (O : EnvOk env) (hA : A.handled = none) (K : cmpOk scope env x = true)
    (hsw : swapsWith (.ListComp elt [⟨.Name x xp, iter, ifs, 0⟩] scope pos) (some (.Name y py)) spos.line env = pure true) (hy : May env y)
    (h : Ev B A env (eval iter env) ρ δ fun m δ₁ => ∃ R, It B A δ₁ m R ∧ ∀ items, R items → items.length ≤ sizeLine ∧ ∀ C, EnvOk (cEnv scope C env) → CpOk B A (cEnv scope C env) x ifs elt (freeVs scope ρ) (fun ms δ' => Q .next (setv ρ y (.lst ms)) δ') items [] δ₁)
    (hs : ∀ v, foldedSetIterable iter env v = pure v := by intro _; rfl) : Ex B A env (exec (.Assign [.Name y py] (.ListComp elt [⟨.Name x xp, iter, ifs, 0⟩] scope pos) spos) env) ρ δ Q :=
  Ex.assignComp O hA (CmpOk.of K) hsw hy (h.mono fun m δ₁ ⟨R, hit, k⟩ => ⟨R, hit, fun items hR => ⟨(k items hR).1, fun C => (k items hR).2 C (O.comp (CmpOk.of K))⟩⟩) hs
theorem Co.fnKeep {f : Value} {ms : List MV} {P : MV → Prop} {Q : MV → Ds → Prop} (h : Co B A f ms δ (fun m δ' => P m ∧ δ' = δ)) (k : ∀ m, P m → Q m δ) : Co B A f ms δ Q := h.mono fun m δ' _ ⟨p, e⟩ => e ▸ k m p
end

local macro_rules | `(tactic| walk_at "ev") => `(tactic| first
  | with_reducible refine Ev.int ?_
  | with_reducible refine Ev.str ?_
  | with_reducible refine Ev.bool ?_
  | with_reducible refine Ev.none_ ?_
  | ((with_reducible refine' Ev.name (by assumption) ?evn ?_); (case evn => rfl))
  | ((with_reducible refine' Ev.globT (by assumption) (by kernel_rfl) ?evg ?_); (case evg => first | exact g_int (by assumption) | exact g_bool (by assumption) | exact g_str (by assumption) | exact g_tuple (by assumption)))
  | with_reducible refine Ev.bin ?_
  | with_reducible refine Ev.un ?_
  | with_reducible refine Ev.ifExp ?_
  | ((with_reducible refine Ev.cmp ?_ ?evm); (case evm => with_unfolding_all rfl))
  | with_reducible refine Ev.tuple ?_
  | with_reducible refine Ev.list ?_
  | with_reducible refine El.nil ?_
  | ((with_reducible refine El.cons ?_ ?elh); (case elh => rfl)))

section
variable {B : Bs} {A : Around} {δ : Ds} {n : Nat}
theorem AOk.u {A : Around} {n : Nat} (h : AOk n A) : A.units + 64 < cLine := by have := h.hu; omega
theorem co_is_number (G : Ok B) (hA : AOk 1 A) {m : MV} (hm : Small m) : Co B A (.ref 28) [m] δ fun r δ' => r = .bool (isNum m) ∧ δ' = δ := by
  refine Co.fn0 (fn_is_number G.hK) hA (by kernel_rfl) fun A' L qual code hA' O hC => ?_
  refine Ex.cons rfl ?_
  refine Ex.ret (Ev.and2 (Ev.call O (by kernel_rfl) (g_isinstance G) Kp.builtin ?_))
  walk_at "ev"
  walk_at "ev"
  walk_at "ev"
  walk_at "ev"
  walk_at "ev"
  refine Co.quiet (isiInt hm ⟨_, rfl, ?_⟩)
  cases hi : isIntB m with
  | false =>
    show MV.bool false = MV.bool (isNum m)
    cases m <;> first | rfl | cases hi
  | true =>
    refine Ev.un (Ev.call O (by kernel_rfl) (g_isinstance G) Kp.builtin ?_)
    walk_at "ev"
    walk_at "ev"
    walk_at "ev"
    walk_at "ev"
    walk_at "ev"
    refine Co.quiet (isiBool hi (Un.not ?_))
    show MV.bool _ = MV.bool (isNum m)
    rw [Bool.not_not]
theorem co_law_is_whole (G : Ok B) (hA : AOk 1 A) {m : MV} (hm : Small m) : Co B A (.ref 211) [m] δ fun r δ' => r = .bool (isNum m) ∧ δ' = δ := by
  refine Co.fn0 (fn_law_is_whole G.hK) hA (by kernel_rfl) fun A' L qual code hA' O hC => ?_
  refine Ex.cons rfl ?_
  refine Ex.ret (Ev.and2 (Ev.call O (by kernel_rfl) (g_isinstance G) Kp.builtin ?_))
  walk_at "ev"
  walk_at "ev"
  walk_at "ev"
  walk_at "ev"
  walk_at "ev"
  refine Co.quiet (isiInt hm ⟨_, rfl, ?_⟩)
  cases hi : isIntB m with
  | false =>
    show MV.bool false = MV.bool (isNum m)
    cases m <;> first | rfl | cases hi
  | true =>
    refine Ev.un (Ev.call O (by kernel_rfl) (g_isinstance G) Kp.builtin ?_)
    walk_at "ev"
    walk_at "ev"
    walk_at "ev"
    walk_at "ev"
    walk_at "ev"
    refine Co.quiet (isiBool hi (Un.not ?_))
    show MV.bool _ = MV.bool (isNum m)
    rw [Bool.not_not]
/-- a tuple or a list -/
noncomputable def seqV (t : Bool) (l : List MV) : MV := if t then .tup l else .lst l
theorem isiTup {t : Bool} {l : List MV} {P : MV → Prop} (h : P (.bool t)) : Cq B A (.builtin "isinstance") [seqV t l, .typ "tuple"] P := by
  cases t with
  | true => exact isi_tt h
  | false => exact isi_lt h
theorem co_is_tuple_of (G : Ok B) (hA : AOk 1 A) {t : Bool} {l : List MV} {k : Int} (hl : l.length ≤ sizeLine) : Co B A (.ref 35) [seqV t l, .int k] δ fun r δ' => r = .bool (t && decide ((l.length : Int) = k)) ∧ δ' = δ := by
  refine Co.fn0 (fn_is_tuple_of G.hK) hA (by kernel_rfl) fun A' L qual code hA' O hC => ?_
  refine Ex.cons rfl ?_
  refine Ex.ret (Ev.and2 (Ev.call O (by kernel_rfl) (g_isinstance G) Kp.builtin ?_))
  walk_at "ev"
  walk_at "ev"
  walk_at "ev"
  walk_at "ev"
  walk_at "ev"
  refine Co.quiet (isiTup ⟨_, rfl, ?_⟩)
  cases t with
  | false => rfl
  | true =>
    rw [if_pos rfl]
    walk_at "ev"
    refine Ev.call O (by kernel_rfl) (g_len G) Kp.builtin ?_
    walk_at "ev"
    walk_at "ev"
    walk_at "ev"
    refine Co.quiet (len_t hl ?_)
    walk_at "ev"
    refine (Cmp.eqI ?_).d
    rfl
theorem co_are_same_sets (G : Ok B) (hA : AOk 1 A) {xs ys : List Int} (hx : xs.length < 64) (hy : ys.length < 64) : Co B A (.ref 42) [.lst (xs.map .int), .lst (ys.map .int)] δ fun r δ' => r = .bool (decide (isort xs = isort ys)) ∧ δ' = δ := by
  have h64 : ∀ {l : List Int}, l.length < 64 → (l.map MV.int).length ≤ sizeLine := fun h => by rw [List.length_map, sizeLine_eq]; omega
  refine Co.fn0 (fn_are_same_sets G.hK) hA (by kernel_rfl) fun A' L qual code hA' O hC => ?_
  refine Ex.cons rfl ?_
  refine Ex.ret ?_
  walk_at "ev"
  refine Ev.call O (by kernel_rfl) (g_sorted G) Kp.builtin ?_
  walk_at "ev"
  walk_at "ev"
  walk_at "ev"
  refine sorted_of fun X v r H => (Cl.list (h64 hx) X v r H).mono fun vs Y _ ⟨items, e, rl⟩ => ⟨items, ⟨xs, e, hx, ?_⟩, rl⟩
  refine Ev.call O (by kernel_rfl) (g_sorted G) Kp.builtin ?_
  walk_at "ev"
  walk_at "ev"
  walk_at "ev"
  refine sorted_of fun X v r H => (Cl.list (h64 hy) X v r H).mono fun vs Y _ ⟨items, e, rl⟩ => ⟨items, ⟨ys, e, hy, ?_⟩, rl⟩
  refine (Cmp.eqInts hA'.u ?_).d
  rfl
end
end
end Mine

/- part RD -/
namespace Mine
noncomputable section
open PySem PySem.W PySem.Calls PyProof.Rows

local macro_rules | `(tactic| walk_at "ev") => `(tactic| first
  | with_reducible refine Ev.int ?_
  | with_reducible refine Ev.str ?_
  | with_reducible refine Ev.bool ?_
  | with_reducible refine Ev.none_ ?_
  | ((with_reducible refine' Ev.name (by assumption) ?evn ?_); (case evn => rfl))
  | ((with_reducible refine' Ev.globT (by assumption) (by kernel_rfl) ?evg ?_); (case evg => first | exact g_int (by assumption) | exact g_bool (by assumption) | exact g_str (by assumption) | exact g_tuple (by assumption)))
  | with_reducible refine Ev.bin ?_
  | with_reducible refine Ev.un ?_
  | with_reducible refine Ev.ifExp ?_
  | ((with_reducible refine Ev.cmp ?_ ?evm); (case evm => with_unfolding_all rfl))
  | with_reducible refine Ev.tuple ?_
  | with_reducible refine Ev.list ?_
  | with_reducible refine El.nil ?_
  | ((with_reducible refine El.cons ?_ ?elh); (case elh => rfl)))

noncomputable abbrev ints' (c : List Int) : List MV := c.map MV.int
/-- the literals that come up -/
noncomputable def LitOk (c : List Int) : Prop := ∀ x ∈ c, x.natAbs ∈ U5
noncomputable def ups (c : List Int) : List Nat := cn fun x => decide ((x : Int) ∈ c)
noncomputable def downs (c : List Int) : List Nat := cn fun x => decide (-(x : Int) ∈ c)
theorem U5_pos {x : Nat} (h : x ∈ U5) : 0 < x ∧ x ≤ 5 := by
  have : ∀ x ∈ U5, 0 < x ∧ x ≤ 5 := by decide
  exact this x h
theorem ups_list {c : List Int} : ((c.filter fun x => decide (0 < x)).map fun x => MV.int x) = ((c.filter fun x => decide (0 < x)).map Int.natAbs).map fun (n : Nat) => MV.int (n : Int) := by
  rw [List.map_map]
  refine List.map_congr_left fun x hx => ?_
  have := (List.mem_filter.mp hx).2
  simp only [decide_eq_true_eq] at this
  show MV.int x = MV.int ((x.natAbs : Nat) : Int)
  congr 1; omega
theorem downs_list {c : List Int} : ((c.filter fun x => decide (x < 0)).map fun x => MV.int (-x)) = ((c.filter fun x => decide (x < 0)).map Int.natAbs).map fun (n : Nat) => MV.int (n : Int) := by
  rw [List.map_map]
  refine List.map_congr_left fun x hx => ?_
  have := (List.mem_filter.mp hx).2
  simp only [decide_eq_true_eq] at this
  show MV.int (-x) = MV.int ((x.natAbs : Nat) : Int)
  congr 1; omega
theorem ups_mem {c : List Int} : ∀ x ∈ U5, x ∈ ups c ↔ x ∈ (c.filter fun x => decide (0 < x)).map Int.natAbs := fun x hx => by
  unfold ups
  rw [mem_cn, List.mem_map, decide_eq_true_iff]
  have hp := U5_pos hx
  constructor
  · rintro ⟨_, h⟩
    exact ⟨x, List.mem_filter.mpr ⟨h, by simp; omega⟩, by omega⟩
  · rintro ⟨y, hy, e⟩
    have h1 := List.mem_filter.mp hy
    simp only [decide_eq_true_eq] at h1
    refine ⟨hx, ?_⟩
    have : (x : Int) = y := by omega
    rw [this]; exact h1.1
theorem downs_mem {c : List Int} : ∀ x ∈ U5, x ∈ downs c ↔ x ∈ (c.filter fun x => decide (x < 0)).map Int.natAbs := fun x hx => by
  unfold downs
  rw [mem_cn, List.mem_map, decide_eq_true_iff]
  have hp := U5_pos hx
  constructor
  · rintro ⟨_, h⟩
    exact ⟨-(x : Int), List.mem_filter.mpr ⟨h, by simp; omega⟩, by omega⟩
  · rintro ⟨y, hy, e⟩
    have h1 := List.mem_filter.mp hy
    simp only [decide_eq_true_eq] at h1
    refine ⟨hx, ?_⟩
    have : -(x : Int) = y := by omega
    rw [this]; exact h1.1
section
variable {B : Bs} {A : Around} {δ : Ds} {n : Nat}
theorem sz64 {c : List Int} (h : c.length < 64) : (ints' c).length ≤ sizeLine := by rw [List.length_map, sizeLine_eq]; omega
theorem co_law_sets (G : Ok B) (hA : AOk 1 A) {c : List Int} (hc : LitOk c) (hn : c.length < 64) : Co B A (.ref 197) [.tup (ints' c)] δ fun r δ' => r = .tup [.set (ups c), .set (downs c)] ∧ δ' = δ := by
  refine Co.fn0 (fn_law_sets G.hK) hA (by kernel_rfl) fun A' L qual code hA' O hC => ?_
  refine Ex.cons rfl (Ex.ret ?_)
  walk_at "ev"
  walk_at "ev"
  refine Ev.call O (by kernel_rfl) (g_set G) Kp.type ?_
  walk_at "ev"
  refine Ev.comp' O hA'.hh ?cb ?_
  (case cb => kernel_rfl)
  walk_at "ev"
  refine ⟨_, It.tup hA'.hh, fun items e => ?_⟩
  subst e
  refine ⟨sz64 hn, fun C OC => CpOk.filt (fun x => MV.int x) (fun x => decide (0 < x)) (fun x => MV.int x) c [] (fun x hx => ?_) (fun x hx _ => ?_) ?_⟩
  · refine Et.cmp ?_ ?cm
    (case cm => with_unfolding_all rfl)
    walk_at "ev"
    walk_at "ev"
    exact (Cmp.gtI ⟨rfl, rfl⟩).d
  · walk_at "ev"
    exact ⟨rfl, rfl⟩
  rw [List.nil_append, ups_list]
  walk_at "ev"
  refine Co.quiet (set_lst hA'.hh (fun n hn => ?_) (cn_subs _) (fun x hx => ups_mem x hx) ?_)
  · obtain ⟨y, hy, e⟩ := List.mem_map.mp hn
    rw [← e]; exact hc y (List.mem_filter.mp hy).1
  walk_at "ev"
  refine Ev.call O (by kernel_rfl) (g_set G) Kp.type ?_
  walk_at "ev"
  refine Ev.comp' O hA'.hh ?cb ?_
  (case cb => kernel_rfl)
  walk_at "ev"
  refine ⟨_, It.tup hA'.hh, fun items e => ?_⟩
  subst e
  refine ⟨sz64 hn, fun C OC => CpOk.filt (fun x => MV.int x) (fun x => decide (x < 0)) (fun x => MV.int (-x)) c [] (fun x hx => ?_) (fun x hx _ => ?_) ?_⟩
  · refine Et.cmp ?_ ?cm
    (case cm => with_unfolding_all rfl)
    walk_at "ev"
    walk_at "ev"
    exact (Cmp.ltI ⟨rfl, rfl⟩).d
  · walk_at "ev"
    walk_at "ev"
    exact Un.neg ⟨rfl, rfl⟩
  rw [List.nil_append, downs_list]
  walk_at "ev"
  refine Co.quiet (set_lst hA'.hh (fun n hn => ?_) (cn_subs _) (fun x hx => downs_mem x hx) ?_)
  · obtain ⟨y, hy, e⟩ := List.mem_map.mp hn
    rw [← e]; exact hc y (List.mem_filter.mp hy).1
  walk_at "ev"
  refine ⟨by rw [sizeLine_eq]; simp, ?_⟩
  rfl
end
end
end Mine

/- part RE -/
namespace Mine
noncomputable section
open PySem PySem.W PySem.Calls PyProof.Rows

local macro_rules | `(tactic| walk_at "ev") => `(tactic| first
  | with_reducible refine Ev.int ?_
  | with_reducible refine Ev.str ?_
  | with_reducible refine Ev.bool ?_
  | with_reducible refine Ev.none_ ?_
  | ((with_reducible refine' Ev.name (by assumption) ?evn ?_); (case evn => rfl))
  | ((with_reducible refine' Ev.globT (by assumption) (by kernel_rfl) ?evg ?_); (case evg => first | exact g_int (by assumption) | exact g_bool (by assumption) | exact g_str (by assumption) | exact g_tuple (by assumption)))
  | with_reducible refine Ev.bin ?_
  | with_reducible refine Ev.un ?_
  | with_reducible refine Ev.ifExp ?_
  | ((with_reducible refine Ev.cmp ?_ ?evm); (case evm => with_unfolding_all rfl))
  | with_reducible refine Ev.tuple ?_
  | with_reducible refine Ev.list ?_
  | with_reducible refine El.nil ?_
  | ((with_reducible refine El.cons ?_ ?elh); (case elh => rfl)))

section
variable {B : Bs} {A : Around} {env : Env} {ρ : Vs} {δ δ' : Ds} {n : Nat}
/-- a test that changes nothing -/
noncomputable abbrev Etq (B : Bs) (A : Around) (env : Env) (e : Expr) (ρ : Vs) (δ : Ds) (b : Bool) : Prop := Et B A env (isTrue e env (eval e env)) ρ δ fun b' δ' => δ' = δ ∧ b' = b
theorem Etq.and2 {x y : Expr} {pos : Pos} {b c : Bool} (h : Etq B A env x ρ δ b) (k : b = true → Etq B A env y ρ δ c) : Etq B A env (.BoolOp .And [x, y] pos) ρ δ (b && c) :=
  Et.boolop (Et.and (h.mono fun b' δ' ⟨e, eb⟩ => by
    subst e eb
    cases b' with
    | false => exact ⟨rfl, rfl⟩
    | true => exact Et.and ((k rfl).mono fun b' δ' ⟨e, eb⟩ => by
        subst e eb
        cases b' with
        | false => exact ⟨rfl, rfl⟩
        | true => exact Et.andNil ⟨rfl, rfl⟩)))
theorem Etq.or2 {x y : Expr} {pos : Pos} {b c : Bool} (h : Etq B A env x ρ δ b) (k : b = false → Etq B A env y ρ δ c) : Etq B A env (.BoolOp .Or [x, y] pos) ρ δ (b || c) :=
  Et.boolop (Et.or (h.mono fun b' δ' ⟨e, eb⟩ => by
    subst e eb
    cases b' with
    | true => exact ⟨rfl, rfl⟩
    | false => exact Et.or ((k rfl).mono fun b' δ' ⟨e, eb⟩ => by
        subst e eb
        cases b' with
        | true => exact ⟨rfl, rfl⟩
        | false => exact Et.orNil ⟨rfl, rfl⟩)))
theorem Etq.not {x : Expr} {pos : Pos} {b : Bool} (h : Etq B A env x ρ δ b) : Etq B A env (.UnaryOp .Not x pos) ρ δ (!b) := Et.not (h.mono fun b' δ' ⟨e, eb⟩ => ⟨e, by rw [eb]⟩)
theorem Etq.cmp {l r : Expr} {op : CmpOp} {pos : Pos} {b : Bool} (h : Ev B A env (eval l env) ρ δ fun a δ₁ => Ev B A env (eval r env) ρ δ₁ fun c δ₂ => CmpD B A op δ₂ a c fun m => δ₂ = δ ∧ m = b)
    (hm : behindInMarks op r = false := by with_unfolding_all rfl) : Etq B A env (.Compare l [op] [r] pos) ρ δ b := Et.cmp h hm
theorem Ex.ifq {t : Expr} {b o : List Stmt} {pos : Pos} {c : Bool} {Q : MF → Vs → Ds → Prop} (h : Etq B A env t ρ δ c) (h1 : c = true → Ex B A env (execs b env) ρ δ Q) (h2 : c = false → Ex B A env (execs o env) ρ δ Q) : Ex B A env (exec (.If t b o pos) env) ρ δ Q :=
  Ex.if_ (h.mono fun c' δ' ⟨e, ec⟩ => by
    subst e ec
    cases c' with
    | true => exact h1 rfl
    | false => exact h2 rfl)
theorem Ev.ifq {t b o : Expr} {pos : Pos} {c : Bool} {Q : MV → Ds → Prop} (h : Etq B A env t ρ δ c) (h1 : c = true → Ev B A env (eval b env) ρ δ Q) (h2 : c = false → Ev B A env (eval o env) ρ δ Q) : Ev B A env (eval (.IfExp t b o pos) env) ρ δ Q :=
  Ev.ifExp (h.mono fun c' δ' ⟨e, ec⟩ => by
    subst e ec
    cases c' with
    | true => exact h1 rfl
    | false => exact h2 rfl)
end
noncomputable def memI (l : List Nat) (p : Int) : Bool := l.any fun (x : Nat) => decide ((x : Int) = p)
theorem memI_iff {l : List Nat} {p : Int} : memI l p = true ↔ ∃ x ∈ l, (x : Int) = p := by
  unfold memI; rw [List.any_eq_true]
  exact ⟨fun ⟨x, h, e⟩ => ⟨x, h, of_decide_eq_true e⟩, fun ⟨x, h, e⟩ => ⟨x, h, decide_eq_true e⟩⟩
/-- one link of a chain, by two sets -/
noncomputable def linkS (u d : List Nat) (p : Int) (c : List Int) : Except String (List Nat × List Nat) :=
  if (memI u p && memI (downs c) p) || (memI d p && memI (ups c) p) then
    if (itx (dif (uni u (ups c)) [p.toNat]) (dif (uni d (downs c)) [p.toNat])).isEmpty then .ok (dif (uni u (ups c)) [p.toNat], dif (uni d (downs c)) [p.toNat]) else .error "tautology"
  else .error "pivot"
noncomputable def linkV : Except String (List Nat × List Nat) → MV
  | .ok (u, d) => .tup [.set u, .set d]
  | .error w => .str (Str.ofString w)
section
variable {B : Bs} {A : Around} {δ : Ds} {n : Nat}
theorem co_law_linked (G : Ok B) (hA : AOk 2 A) {u d : List Nat} {p : Int} {c : List Int} (hu : u ∈ subs) (hd : d ∈ subs) (hc : LitOk c) (hn : c.length < 64) :
    Co B A (.ref 204) [.set u, .set d, .int p, .tup (ints' c)] δ fun r δ' => r = linkV (linkS u d p c) ∧ δ' = δ := by
  refine Co.fn0 (fn_law_linked G.hK) hA (by kernel_rfl) fun A' L qual code hA' O hC => ?_
  refine Ex.cons rfl ?_
  refine Ex.assignTup (xs := ["other_ups", "other_downs"]) O hA'.hh rfl (fun x hx => ?_) ?_ rfl rfl
  · simp only [List.mem_cons, List.not_mem_nil, or_false] at hx
    rcases hx with rfl | rfl <;> exact .inl (by kernel_rfl)
  refine Ev.call O (by kernel_rfl) (g_law_sets G) (fn_law_sets G.hK).kp ?_
  walk_at "ev"
  walk_at "ev"
  walk_at "ev"
  refine Co.fnKeep (co_law_sets G hA' hc hn) fun m e => ?_
  subst e
  refine ⟨_, rfl, rfl, ?_⟩
  refine Ex.vars [("ups", .set u), ("downs", .set d), ("pivot", .int p), ("clause", .tup (ints' c)), ("other_ups", .set (ups c)), ("other_downs", .set (downs c))] (SubV.ofMap rfl) ?_
  refine Ex.cons rfl ?_
  have test : ∀ (a b : Expr), True := fun _ _ => trivial
  refine Ex.ifq (Etq.not (Etq.or2 (Etq.and2 (b := memI u p) (c := memI (downs c) p) (Etq.cmp ?_) fun _ => Etq.cmp ?_) fun _ => Etq.and2 (b := memI d p) (c := memI (ups c) p) (Etq.cmp ?_) fun _ => Etq.cmp ?_)) (fun hb => ?_) (fun hb => ?_)
  · walk_at "ev"; walk_at "ev"; exact (Cmp.inS ⟨rfl, rfl⟩).d
  · walk_at "ev"; walk_at "ev"; exact (Cmp.inS ⟨rfl, rfl⟩).d
  · walk_at "ev"; walk_at "ev"; exact (Cmp.inS ⟨rfl, rfl⟩).d
  · walk_at "ev"; walk_at "ev"; exact (Cmp.inS ⟨rfl, rfl⟩).d
  · refine Ex.cons rfl (Ex.ret ?_)
    walk_at "ev"
    show MV.str _ = linkV (linkS u d p c)
    unfold linkS
    rw [(Bool.not_eq_true' _).mp hb]
    rfl
  refine Ex.nil ?_
  have hb' : (memI u p && memI (downs c) p || memI d p && memI (ups c) p) = true := (Bool.not_eq_false' _).mp hb
  have hpU : ∃ x : Nat, x ∈ U5 ∧ p = (x : Int) := by
    rw [Bool.or_eq_true, Bool.and_eq_true, Bool.and_eq_true] at hb'
    rcases hb' with ⟨h1, _⟩ | ⟨h1, _⟩
    · obtain ⟨x, hx, e⟩ := memI_iff.mp h1; exact ⟨x, subs_U5 u hu x hx, e.symm⟩
    · obtain ⟨x, hx, e⟩ := memI_iff.mp h1; exact ⟨x, subs_U5 d hd x hx, e.symm⟩
  obtain ⟨x, hx, rfl⟩ := hpU
  refine Ex.cons rfl ?_
  refine Ex.assignSwap (xs := ["ups", "downs"]) O hA'.hh (fun x hx => ?_) ?_ rfl rfl
  · simp only [List.mem_cons, List.not_mem_nil, or_false] at hx
    rcases hx with rfl | rfl <;> exact .inl (by kernel_rfl)
  walk_at "ev"
  walk_at "ev"
  walk_at "ev"
  walk_at "ev"
  walk_at "ev"
  walk_at "ev"
  refine Bin.orS ?_
  refine Ev.set1 hC O rfl ?_
  walk_at "ev"
  refine ⟨x, hx, rfl, Bin.subS (by simp) ?_⟩
  walk_at "ev"
  walk_at "ev"
  walk_at "ev"
  walk_at "ev"
  walk_at "ev"
  refine Bin.orS ?_
  refine Ev.set1 hC O rfl ?_
  walk_at "ev"
  refine ⟨x, hx, rfl, Bin.subS (by simp) ?_⟩
  walk_at "ev"
  refine ⟨by rw [sizeLine_eq]; simp, _, rfl, rfl, ?_⟩
  refine Ex.vars [("ups", .set (dif (uni u (ups c)) [x])), ("downs", .set (dif (uni d (downs c)) [x]))] (SubV.ofMap rfl) ?_
  refine Ex.cons rfl (Ex.ret ?_)
  refine Ev.ifq (c := !(itx (dif (uni u (ups c)) [x]) (dif (uni d (downs c)) [x])).isEmpty) (Etq.cmp ?_) (fun hb => ?_) (fun hb => ?_)
  · walk_at "ev"
    walk_at "ev"
    walk_at "ev"
    refine Bin.andS ?_
    refine Ev.call O (by kernel_rfl) (g_set G) Kp.type ?_
    walk_at "ev"
    refine Co.quiet (set0 ?_)
    exact (Cmp.neS0 (by have := hA'.u; omega) ⟨rfl, rfl⟩).d
  · walk_at "ev"
    show MV.str _ = linkV (linkS u d (x : Int) c)
    unfold linkS
    rw [if_pos hb', Int.toNat_natCast, if_neg (by simpa using hb)]
    rfl
  · walk_at "ev"
    walk_at "ev"
    walk_at "ev"
    walk_at "ev"
    walk_at "ev"
    walk_at "ev"
    refine ⟨by rw [sizeLine_eq]; simp, ?_⟩
    show MV.tup _ = linkV (linkS u d (x : Int) c)
    unfold linkS
    rw [if_pos hb', Int.toNat_natCast, if_pos (by simpa using hb)]
    rfl
end
end
end Mine

/- part RF -/
namespace Mine
noncomputable section
open PySem PySem.W PySem.Calls PyProof.Rows

local macro_rules | `(tactic| walk_at "ev") => `(tactic| first
  | with_reducible refine Ev.int ?_
  | with_reducible refine Ev.str ?_
  | with_reducible refine Ev.bool ?_
  | with_reducible refine Ev.none_ ?_
  | ((with_reducible refine' Ev.name (by assumption) ?evn ?_); (case evn => rfl))
  | ((with_reducible refine' Ev.globT (by assumption) (by kernel_rfl) ?evg ?_); (case evg => first | exact g_int (by assumption) | exact g_bool (by assumption) | exact g_str (by assumption) | exact g_tuple (by assumption)))
  | with_reducible refine Ev.bin ?_
  | with_reducible refine Ev.un ?_
  | with_reducible refine Ev.ifExp ?_
  | ((with_reducible refine Ev.cmp ?_ ?evm); (case evm => with_unfolding_all rfl))
  | with_reducible refine Ev.tuple ?_
  | with_reducible refine Ev.list ?_
  | with_reducible refine El.nil ?_
  | ((with_reducible refine El.cons ?_ ?elh); (case elh => rfl)))

theorem SubV.setv {ρ : Vs} {x : Str} {m : MV} : ∀ {ρ0 : Vs}, SubV ρ0 ρ → (∀ p ∈ ρ0, p.1 ≠ x) → SubV ρ0 (setv ρ x m)
  | [], _, _ => trivial
  | (y, n) :: r, ⟨h, k⟩, hn => ⟨by rw [setv_lookup, if_neg (hn _ List.mem_cons_self)]; exact h, SubV.setv k fun p hp => hn p (List.mem_cons_of_mem _ hp)⟩
theorem SubV.set1 {ρ ρ0 : Vs} {x : Str} {m : MV} (h : SubV ρ0 ρ) (hn : ((ρ0.map (·.1)).all fun y => decide (y ≠ x)) = true) : SubV ((x, m) :: ρ0) (Mine.setv ρ x m) := ⟨by rw [setv_lookup, if_pos rfl], SubV.setv h fun p hp => of_decide_eq_true (List.all_eq_true.mp hn _ (List.mem_map_of_mem hp))⟩

/-- a step of a proof -/
noncomputable def stepV (c : List Int) : MV := .tup [.str "input", .tup (ints' c), .tup [], .int 0]
noncomputable def stepsV (cs : List (List Int)) : MV := .lst (cs.map stepV)
noncomputable def natsV (ps : List Nat) : MV := .tup (ps.map fun (k : Nat) => .int (k : Int))
noncomputable def StepsOk (cs : List (List Int)) : Prop := cs.length < 64 ∧ ∀ c ∈ cs, LitOk c ∧ c.length < 64
noncomputable def badN : MV → Bool
  | .int i => decide (i < 1)
  | _ => true
noncomputable def lits (u d : List Nat) : List Int := u.map (fun (x : Nat) => (x : Int)) ++ d.map fun (x : Nat) => -(x : Int)
noncomputable def chainS : List Nat × List Nat → List (Int × List Int) → Except String (List Nat × List Nat)
  | s, [] => .ok s
  | s, (p, c) :: r => match linkS s.1 s.2 p c with
    | .ok s' => chainS s' r
    | .error w => .error w
noncomputable def numI : MV → Int
  | .int i => i
  | _ => 0
noncomputable def wordS (cs : List (List Int)) (clause : List Int) (ps : List Nat) (t : Bool) (l : List MV) : String :=
  match ps with
  | [] => "premise"
  | p0 :: pr => if t && decide (l.length = pr.length) then
      if l.any badN then "note" else
        match chainS (ups (cs.getD p0 []), downs (cs.getD p0 [])) ((l.map numI).zip (pr.map fun k => cs.getD k [])) with
        | .error w => w
        | .ok (u, d) => if isort clause = isort (lits u d) then "" else "result"
    else "note"
theorem isort_congr {a b : List Int} (h : a.Perm b) : isort a = isort b := isort_of ((isort_perm a).trans h) (isort_sorted a)
theorem stepsV_get {cs : List (List Int)} {k : Nat} (hk : k < cs.length) : (cs.map stepV)[k]? = some (stepV (cs.getD k [])) := by
  rw [List.getElem?_map, List.getElem?_eq_getElem hk, List.getD_eq_getElem?_getD, List.getElem?_eq_getElem hk]; rfl
theorem StepsOk.at_ {cs : List (List Int)} (h : StepsOk cs) {k : Nat} (hk : k < cs.length) : LitOk (cs.getD k []) ∧ (cs.getD k []).length < 64 := by
  rw [List.getD_eq_getElem?_getD, List.getElem?_eq_getElem hk]
  exact h.2 _ (List.getElem_mem hk)
theorem linkS_subs {u d : List Nat} {p : Int} {c : List Int} {u' d' : List Nat} (h : linkS u d p c = .ok (u', d')) : u' ∈ subs ∧ d' ∈ subs := by
  unfold linkS at h
  split at h
  · split at h
    · cases h; exact ⟨cn_subs _, cn_subs _⟩
    · cases h
  · cases h
section
variable {B : Bs} {A : Around} {δ : Ds} {n : Nat}
theorem CpOk.filtM {cenv : Env} {x : Str} {test elt : Expr} {ρc : Vs} {Q : List MV → Ds → Prop} (f : MV → Bool) (g : MV → MV) (l acc : List MV)
    (h1 : ∀ a ∈ l, Et B A cenv (isTrue test cenv (eval test cenv)) (setv ρc x a) δ fun b δ₁ => δ₁ = δ ∧ b = f a) (h2 : ∀ a ∈ l, f a = true → Ev B A cenv (eval elt cenv) (setv ρc x a) δ fun y δ₁ => δ₁ = δ ∧ y = g a)
    (q : Q (acc ++ (l.filter f).map g) δ) : CpOk B A cenv x [test] elt ρc Q l acc δ := by
  have := CpOk.filt (fun m => m) f g l acc h1 h2 q
  rwa [List.map_id'] at this
/-- what is to hold behind a loop's block -/
noncomputable abbrev LoopQ (J : Vs → Ds → Prop) (Q : MF → Vs → Ds → Prop) : MF → Vs → Ds → Prop := fun f ρ' δ' => match f with
  | .next => J ρ' δ' | .cont => J ρ' δ' | .brk => Q .next ρ' δ' | .ret v => Q (.ret v) ρ' δ'
noncomputable abbrev LoopQ2 (δ : Ds) (J : Vs → Prop) (Q : MF → Vs → Ds → Prop) : MF → Vs → Ds → Prop := fun f ρ' δ' => δ' = δ ∧ match f with
  | .next => J ρ' | .cont => J ρ' | .brk => Q .next ρ' δ | .ret v => Q (.ret v) ρ' δ
theorem ForOk2.run {env : Env} {body : List Stmt} {x y : Str} {Q : MF → Vs → Ds → Prop} {α : Type} (w : α → MV × MV) (J : List α → Vs → Prop)
    (h : ∀ a r ρ, J (a :: r) ρ → Ex B A env (execs body env) (Mine.setv (Mine.setv ρ x (w a).1) y (w a).2) δ (LoopQ2 δ (J r) Q))
    (h0 : ∀ ρ, J [] ρ → Q .next ρ δ) : ∀ (l : List α) (ρ : Vs), J l ρ → ForOk2 B A env body x y Q (l.map w) ρ δ
  | [], ρ, j => h0 ρ j
  | a :: l, ρ, j => by
    have ih := fun ρ => ForOk2.run w J h h0 l ρ
    show Ex B A env _ _ _ _
    refine (h a l ρ j).mono fun f ρ' δ' ⟨e, q⟩ => ?_
    subst e
    cases f with
    | next => exact ih ρ' q
    | cont => exact ih ρ' q
    | brk => exact q
    | ret v => exact q
theorem ForOk.run {env : Env} {body : List Stmt} {x : Str} {Q : MF → Vs → Ds → Prop} {α : Type} (w : α → MV) (J : List α → Vs → Ds → Prop)
    (h : ∀ a r ρ δ, J (a :: r) ρ δ → Ex B A env (execs body env) (Mine.setv ρ x (w a)) δ (LoopQ (J r) Q))
    (h0 : ∀ ρ δ, J [] ρ δ → Q .next ρ δ) : ∀ (l : List α) (ρ : Vs) (δ : Ds), J l ρ δ → ForOk B A env body x Q (l.map w) ρ δ
  | [], ρ, δ, j => h0 ρ δ j
  | a :: l, ρ, δ, j => by
    have ih := fun ρ δ => ForOk.run w J h h0 l ρ δ
    show Ex B A env _ _ _ _
    refine (h a l ρ δ j).mono fun f ρ' δ' q => ?_
    cases f with
    | next => exact ih ρ' δ' q
    | cont => exact ih ρ' δ' q
    | brk => exact q
    | ret v => exact q
theorem isiStr {r : Except String (List Nat × List Nat)} {P : MV → Prop} (h : P (.bool (match r with | .ok _ => false | .error _ => true))) : Cq B A (.builtin "isinstance") [linkV r, .typ "str"] P := by
  cases r with
  | ok x => exact isi_ts h
  | error w => exact isi_ss h
theorem lits_perm {u d : List Nat} {p q : List Nat} (hp : p.Perm u) (hq : q.Perm d) : (p.map (fun (x : Nat) => (x : Int)) ++ q.map fun (x : Nat) => -(x : Int)).Perm (lits u d) := (hp.map _).append (hq.map _)
theorem small_flat {m : MV} (h : Small m) : Flat 9 m := by
  cases h with
  | int i => exact ⟨by simp [okD], by simp [dat, PyData.depth]⟩
  | bool b => exact ⟨by simp [okD], by simp [dat, PyData.depth]⟩
  | str s hs => exact ⟨by simpa [okD] using hs, by simp [dat, PyData.depth]⟩
  | none => exact ⟨by simp [okD], by simp [dat, PyData.depth]⟩
theorem lt64 {n : Nat} (h : n < 64) : n ≤ sizeLine := by rw [sizeLine_eq]; omega
noncomputable abbrev WdV (cs : List (List Int)) (clause : List Int) (u d : List Nat) : Vs := [("steps", stepsV cs), ("clause", .tup (ints' clause)), ("left", .tup [.set u, .set d])]
noncomputable abbrev WdJ (cs : List (List Int)) (clause : List Int) (w : Except String (List Nat × List Nat)) (r : List (Int × Nat)) (ρ : Vs) : Prop := ∃ u d, u ∈ subs ∧ d ∈ subs ∧ SubV (WdV cs clause u d) ρ ∧ (∀ q ∈ r, q.2 < cs.length) ∧ w = chainS (u, d) (r.map fun q => (q.1, cs.getD q.2 []))
theorem co_law_word (G : Ok B) (hA : AOk 3 A) {cs : List (List Int)} {clause : List Int} {ps : List Nat} {t : Bool} {l : List MV} (hcs : StepsOk cs) (hcl : clause.length < 64) (hps : ps.length < 64) (hpk : ∀ k ∈ ps, k < cs.length) (hl : l.length < 64) (hsm : ∀ m ∈ l, Small m) :
    Co B A (.ref 216) [stepsV cs, .tup (ints' clause), natsV ps, seqV t l] δ fun r δ' => r = .str (Str.ofString (wordS cs clause ps t l)) ∧ δ' = δ := by
  refine Co.fn0 (fn_law_word G.hK) hA (by kernel_rfl) fun A' L qual code hA' O hC => ?_
  refine Ex.cons rfl ?_
  refine Ex.ifq (c := (ps.map fun (k : Nat) => MV.int (k : Int)).isEmpty) (Etq.cmp ?_) (fun hb => ?_) (fun hb => ?_)
  · walk_at "ev"
    walk_at "ev"
    walk_at "ev"
    refine ⟨by rw [sizeLine_eq]; simp, ?_⟩
    refine (Cmp.eqNilT hA'.u (fun m hm => ?_) ⟨rfl, rfl⟩).d
    obtain ⟨k, _, rfl⟩ := List.mem_map.mp hm
    exact ⟨by simp [okD], by simp [dat, PyData.depth]⟩
  · refine Ex.cons rfl (Ex.ret ?_)
    walk_at "ev"
    have : ps = [] := by cases ps with | nil => rfl | cons _ _ => simp at hb
    subst this
    rfl
  refine Ex.nil ?_
  cases ps with
  | nil => simp at hb
  | cons p0 pr =>
  refine Ex.cons rfl ?_
  refine Ex.ifq (Etq.or2 (b := !t) (c := !decide (l.length = pr.length)) (Etq.not ?_) fun ht => Etq.cmp ?_) (fun hb => ?_) (fun hb => ?_)
  · refine Et.value ?_
    refine Ev.call O (by kernel_rfl) (g_isinstance G) Kp.builtin ?_
    walk_at "ev"; walk_at "ev"; walk_at "ev"; walk_at "ev"; walk_at "ev"
    exact Co.quiet (isiTup ⟨_, rfl, rfl, rfl⟩)
  · have ht' : t = true := by simpa using ht
    subst ht'
    refine Ev.call O (by kernel_rfl) (g_len G) Kp.builtin ?_
    walk_at "ev"; walk_at "ev"; walk_at "ev"
    refine Co.quiet (len_t (lt64 hl) ?_)
    walk_at "ev"
    refine Ev.call O (by kernel_rfl) (g_len G) Kp.builtin ?_
    walk_at "ev"; walk_at "ev"; walk_at "ev"
    refine Co.quiet (len_t (by rw [List.length_map]; exact lt64 hps) ?_)
    walk_at "ev"
    refine Bin.subI ?_
    refine (Cmp.neI ⟨rfl, ?_⟩).d
    simp only [List.length_map, List.length_cons]
    have : ((pr.length + 1 : Nat) : Int) - 1 = (pr.length : Int) := by push_cast; omega
    rw [this]
    by_cases h : l.length = pr.length
    · simp [h]
    · have : ((l.length : Nat) : Int) ≠ (pr.length : Nat) := by omega
      simp [h, this]
  · refine Ex.cons rfl (Ex.ret ?_)
    walk_at "ev"
    show MV.str _ = MV.str _
    unfold wordS
    have : (t && decide (l.length = pr.length)) = false := by
      cases t <;> simp_all
    simp only [this]
    rfl
  refine Ex.nil ?_
  have hbt : t = true ∧ l.length = pr.length := by
    cases t <;> simp_all
  obtain ⟨rfl, hlen⟩ := hbt
  refine Ex.cons rfl ?_
  refine Ex.ifq (c := !(l.filter badN).isEmpty) (Etq.cmp ?_) (fun hb => ?_) (fun hb => ?_)
  · refine Ev.comp' O hA'.hh ?cb ?_
    (case cb => kernel_rfl)
    walk_at "ev"
    refine ⟨_, It.tup hA'.hh, fun items e => ?_⟩
    subst e
    refine ⟨lt64 hl, fun C OC => CpOk.filtM badN (fun m => m) _ [] (fun m hm => ?_) (fun m hm _ => ?_) ?_⟩
    · have hs := hsm m hm
      have e : badN m = (!(isNum m) || decide (numI m < 1)) := by cases hs <;> rfl
      rw [e]
      refine Etq.or2 (Etq.not (b := isNum m) ?_) fun hi => Etq.cmp ?_
      · refine Et.value ?_
        refine Ev.call OC (by kernel_rfl) (g_law_is_whole G) (fn_law_is_whole G.hK).kp ?_
        walk_at "ev"; walk_at "ev"; walk_at "ev"
        exact Co.fnKeep (co_law_is_whole G (hA'.less (by omega)) hs) fun m e => ⟨_, e, rfl, rfl⟩
      · have hi' : isNum m = true := (Bool.not_eq_false' _).mp hi
        cases hs <;> first | cases hi' | skip
        walk_at "ev"
        walk_at "ev"
        exact (Cmp.ltI ⟨rfl, rfl⟩).d
    · walk_at "ev"
      exact ⟨rfl, rfl⟩
    rw [List.nil_append, List.map_id']
    walk_at "ev"
    walk_at "ev"
    refine ⟨by rw [sizeLine_eq]; simp, ?_⟩
    exact (Cmp.neNilL hA'.u (fun m hm => small_flat (hsm m (List.mem_filter.mp hm).1)) ⟨rfl, rfl⟩).d
  · refine Ex.cons rfl (Ex.ret ?_)
    walk_at "ev"
    show MV.str _ = MV.str _
    unfold wordS
    have h1 : l.any badN = true := by
      rw [Bool.not_eq_true'] at hb
      cases hf : l.filter badN with
      | nil => rw [hf] at hb; simp at hb
      | cons y r =>
        have : y ∈ l.filter badN := by rw [hf]; exact List.mem_cons_self
        exact List.any_eq_true.mpr ⟨y, List.mem_filter.mp this⟩
    simp only [hlen, decide_true, Bool.and_self, if_true, h1]
  refine Ex.nil ?_
  have hnb : l.any badN = false := by
    rw [Bool.not_eq_false'] at hb
    rw [Bool.eq_false_iff]
    intro h
    obtain ⟨y, hy, e⟩ := List.any_eq_true.mp h
    have : y ∈ l.filter badN := List.mem_filter.mpr ⟨hy, e⟩
    rw [List.isEmpty_iff.mp hb] at this
    cases this
  have hword : wordS cs clause (p0 :: pr) true l = match chainS (ups (cs.getD p0 []), downs (cs.getD p0 [])) ((l.map numI).zip (pr.map fun k => cs.getD k [])) with
        | .error w => w
        | .ok (u, d) => if isort clause = isort (lits u d) then "" else "result" := by
    unfold wordS
    simp only [hlen, decide_true, Bool.and_self, if_true, hnb, Bool.false_eq_true, if_false]
  rw [hword]
  obtain ⟨js, rfl⟩ : ∃ js : List Int, l = js.map .int := by
    refine ⟨l.map numI, ?_⟩
    rw [List.map_map]
    have : ∀ m ∈ l, (MV.int ∘ numI) m = m := fun m hm => by
      have h1 : badN m = false := by
        have := List.any_eq_false.mp hnb m hm
        simpa using this
      cases m <;> first | rfl | (simp [badN] at h1)
    rw [List.map_congr_left this]; simp
  have hnum : (js.map MV.int).map numI = js := by rw [List.map_map]; simp [Function.comp_def, numI]
  rw [hnum]
  have hp0 : p0 < cs.length := hpk p0 List.mem_cons_self
  have hc0 := hcs.at_ hp0
  refine Ex.cons rfl ?_
  refine Ex.assign O (.inl (by kernel_rfl)) ?_ rfl
  refine Ev.call O (by kernel_rfl) (g_law_sets G) (fn_law_sets G.hK).kp ?_
  walk_at "ev"
  refine Ev.sub (Ev.sub ?_)
  walk_at "ev"
  refine Ev.sub ?_
  walk_at "ev"
  walk_at "ev"
  refine Sb.tupI (k := 0) (by rw [List.length_map]; exact lt64 hps) rfl ?_
  refine Sb.listI (k := p0) (by rw [List.length_map]; exact lt64 hcs.1) (stepsV_get hp0) ?_
  walk_at "ev"
  refine Sb.tupI (k := 1) (by rw [sizeLine_eq]; simp) rfl ?_
  walk_at "ev"
  refine Co.fnKeep (co_law_sets G (hA'.less (by omega)) hc0.1 hc0.2) fun m e => ?_
  subst e
  refine Ex.vars [("steps", stepsV cs), ("clause", .tup (ints' clause)), ("premises", natsV (p0 :: pr)), ("note", .tup (js.map .int)), ("left", .tup [.set (ups (cs.getD p0 [])), .set (downs (cs.getD p0 []))])] (SubV.ofMap rfl) ?_
  refine Ex.cons rfl ?_
  refine Ex.forZip (x := "pivot") (y := "number") O hA'.hh (.inl (by kernel_rfl)) (.inl (by kernel_rfl)) (by kernel_rfl) (g_zip G) Kp.type ?_
  walk_at "ev"
  walk_at "ev"
  walk_at "ev"
  refine Ev.sub ?_
  walk_at "ev"
  refine Ev.slice (Eo.some_ ?_)
  walk_at "ev"
  refine Eo.none_ (Eo.none_ ?_)
  refine Sb.tupS (a := some ((1 : Nat) : Int)) (b := none) (c := none) (by rw [tsl_drop, List.length_drop, List.length_map]; have := lt64 hps; omega) rfl rfl rfl (by simp) ?_
  rw [tsl_drop]
  walk_at "ev"
  have hjl : js.length = pr.length := by simpa using hlen
  refine ⟨js.map .int, pr.map fun (k : Nat) => .int (k : Int), rfl, by simp [hjl], ?_⟩
  have ez : (js.map MV.int).zip (pr.map fun (k : Nat) => MV.int (k : Int)) = (js.zip pr).map fun q => (MV.int q.1, MV.int (q.2 : Int)) := by
    rw [List.zip_map]; rfl
  rw [ez]
  have ec : js.zip (pr.map fun k => cs.getD k []) = (js.zip pr).map fun q => (q.1, cs.getD q.2 []) := by
    rw [List.zip_map_right]; rfl
  rw [ec]
  refine ForOk2.run (fun q : Int × Nat => (MV.int q.1, MV.int (q.2 : Int))) (WdJ cs clause (chainS (ups (cs.getD p0 []), downs (cs.getD p0 [])) ((js.zip pr).map fun q => (q.1, cs.getD q.2 [])))) ?_ ?_ _ _ ⟨_, _, cn_subs _, cn_subs _, (SubV.ofMap rfl), fun q hq => hpk _ (List.mem_cons_of_mem _ (List.of_mem_zip hq).2), rfl⟩
  · rintro ⟨j, k⟩ r ρ ⟨u, d, hu, hd, hV, hk, hch⟩
    have hk0 : k < cs.length := hk (j, k) List.mem_cons_self
    have hck := hcs.at_ hk0
    refine Ex.vars (("number", .int (k : Int)) :: ("pivot", .int j) :: WdV cs clause u d) (SubV.set1 (SubV.set1 hV (by kernel_rfl)) (by kernel_rfl)) ?_
    refine Ex.cons rfl ?_
    refine Ex.assign O (.inl (by kernel_rfl)) ?_ rfl
    refine Ev.call O (by kernel_rfl) (g_law_linked G) (fn_law_linked G.hK).kp ?_
    walk_at "ev"
    refine Ev.sub ?_
    walk_at "ev"
    walk_at "ev"
    refine Sb.tupI (k := 0) (by rw [sizeLine_eq]; simp) rfl ?_
    walk_at "ev"
    refine Ev.sub ?_
    walk_at "ev"
    walk_at "ev"
    refine Sb.tupI (k := 1) (by rw [sizeLine_eq]; simp) rfl ?_
    walk_at "ev"
    walk_at "ev"
    walk_at "ev"
    refine Ev.sub (Ev.sub ?_)
    walk_at "ev"
    walk_at "ev"
    refine Sb.listI (k := k) (by rw [List.length_map]; exact lt64 hcs.1) (stepsV_get hk0) ?_
    walk_at "ev"
    refine Sb.tupI (k := 1) (by rw [sizeLine_eq]; simp) rfl ?_
    walk_at "ev"
    refine Co.fnKeep (co_law_linked G hA' hu hd hck.1 hck.2) fun m e => ?_
    subst e
    refine Ex.vars [("left", linkV (linkS u d j (cs.getD k []))), ("steps", stepsV cs), ("clause", .tup (ints' clause))] (SubV.ofMap rfl) ?_
    have hch' : chainS (u, d) (((j, k) :: r).map fun q => (q.1, cs.getD q.2 [])) = match linkS u d j (cs.getD k []) with
      | .ok s' => chainS s' (r.map fun q => (q.1, cs.getD q.2 []))
      | .error w => .error w := rfl
    rw [hch'] at hch
    cases hls : linkS u d j (cs.getD k []) with
    | error w =>
      rw [hls] at hch
      refine Ex.cons rfl ?_
      refine Ex.ifq (c := true) (Et.value ?_) (fun _ => ?_) (fun hb => by cases hb)
      · refine Ev.call O (by kernel_rfl) (g_isinstance G) Kp.builtin ?_
        walk_at "ev"; walk_at "ev"; walk_at "ev"; walk_at "ev"; walk_at "ev"
        exact Co.quiet (isi_ss ⟨_, rfl, rfl, rfl⟩)
      · refine Ex.cons rfl (Ex.ret ?_)
        walk_at "ev"
        refine ⟨rfl, ?_⟩
        show MV.str _ = MV.str _
        rw [hch]
    | ok s' =>
      obtain ⟨u', d'⟩ := s'
      rw [hls] at hch
      refine Ex.cons rfl ?_
      refine Ex.ifq (c := false) (Et.value ?_) (fun hb => by cases hb) (fun _ => ?_)
      · refine Ev.call O (by kernel_rfl) (g_isinstance G) Kp.builtin ?_
        walk_at "ev"; walk_at "ev"; walk_at "ev"; walk_at "ev"; walk_at "ev"
        exact Co.quiet (isi_ts ⟨_, rfl, rfl, rfl⟩)
      · refine Ex.nil (Ex.nil ⟨rfl, u', d', (linkS_subs hls).1, (linkS_subs hls).2, (SubV.ofMap rfl), fun q hq => hk q (List.mem_cons_of_mem _ hq), hch⟩)
  · rintro ρ ⟨u, d, hu, hd, hV, _, hch⟩
    refine Ex.vars (WdV cs clause u d) hV ?_
    have hch2 : chainS (ups (cs.getD p0 []), downs (cs.getD p0 [])) ((js.zip pr).map fun q => (q.1, cs.getD q.2 [])) = .ok (u, d) := hch
    refine Ex.cons rfl (Ex.ret ?_)
    refine Ev.ifq (c := decide (isort clause = isort (lits u d))) (Etq.cmp ?_) (fun hb => ?_) (fun hb => ?_)
    · refine Ev.call O (by kernel_rfl) (g_sorted G) Kp.builtin ?_
      walk_at "ev"; walk_at "ev"; walk_at "ev"
      refine sorted_of fun X v r H => (Cl.tup (sz64 hcl) X v r H).mono fun vs Y _ ⟨items, e, rl⟩ => ⟨items, ⟨clause, e, hcl, ?_⟩, rl⟩
      refine Ev.call O (by kernel_rfl) (g_sorted G) Kp.builtin ?_
      walk_at "ev"
      walk_at "ev"
      refine Ev.call O (by kernel_rfl) (g_list G) Kp.type ?_
      walk_at "ev"
      refine Ev.sub ?_
      walk_at "ev"
      walk_at "ev"
      refine Sb.tupI (k := 0) (by rw [sizeLine_eq]; simp) rfl ?_
      walk_at "ev"
      refine Co.quiet (lst_set hA'.hh fun items ho => ?_)
      obtain ⟨p, hp, rfl⟩ := ho
      refine Ev.comp' O hA'.hh ?cb ?_
      (case cb => kernel_rfl)
      refine Ev.sub ?_
      walk_at "ev"
      walk_at "ev"
      refine Sb.tupI (k := 1) (by rw [sizeLine_eq]; simp) rfl ?_
      refine ⟨_, It.set hA'.hh, fun items ho => ?_⟩
      obtain ⟨q, hq, rfl⟩ := ho
      have hp5 : p.length ≤ 5 := hp.length_eq ▸ subs_len u hu
      have hq5 : q.length ≤ 5 := hq.length_eq ▸ subs_len d hd
      refine ⟨by rw [List.length_map]; exact lt64 (by omega), fun C OC => CpOk.map_ (fun (n : Nat) => MV.int (n : Int)) (fun (n : Nat) => MV.int (-(n : Int))) q [] (fun x hx => ?_) ?_⟩
      · walk_at "ev"
        walk_at "ev"
        exact Un.neg ⟨rfl, rfl⟩
      rw [List.nil_append]
      refine Bin.addL (by rw [List.length_map, List.length_map]; exact lt64 (by omega)) ?_
      walk_at "ev"
      have hlen2 : (p.map (fun (x : Nat) => (x : Int)) ++ q.map fun (x : Nat) => -(x : Int)).length < 64 := by simp; omega
      have e1 : (p.map fun (n : Nat) => MV.int (n : Int)) ++ (q.map fun (n : Nat) => MV.int (-(n : Int))) = ints' (p.map (fun (x : Nat) => (x : Int)) ++ q.map fun (x : Nat) => -(x : Int)) := by
        show _ = List.map MV.int (_ ++ _)
        rw [List.map_append, List.map_map, List.map_map]; rfl
      rw [e1]
      refine sorted_of fun X v r H => (Cl.list (sz64 hlen2) X v r H).mono fun vs Y _ ⟨items, e, rl⟩ => ⟨items, ⟨_, e, hlen2, ?_⟩, rl⟩
      rw [isort_congr (lits_perm hp hq)]
      exact (Cmp.eqInts hA'.u ⟨rfl, rfl⟩).d
    · walk_at "ev"
      show MV.str _ = MV.str _
      rw [hch2]
      simp only [of_decide_eq_true hb, if_true]
    · walk_at "ev"
      show MV.str _ = MV.str _
      rw [hch2]
      simp only [of_decide_eq_false hb, if_false]
end
end
end Mine

/- part RG -/
namespace Mine
noncomputable section
open PySem PySem.W PySem.Calls PyProof.Rows

local macro_rules | `(tactic| walk_at "ev") => `(tactic| first
  | with_reducible refine Ev.int ?_
  | with_reducible refine Ev.str ?_
  | with_reducible refine Ev.bool ?_
  | with_reducible refine Ev.none_ ?_
  | ((with_reducible refine' Ev.name (by assumption) ?evn ?_); (case evn => rfl))
  | ((with_reducible refine' Ev.globT (by assumption) (by kernel_rfl) ?evg ?_); (case evg => first | exact g_int (by assumption) | exact g_bool (by assumption) | exact g_str (by assumption) | exact g_tuple (by assumption)))
  | with_reducible refine Ev.bin ?_
  | with_reducible refine Ev.un ?_
  | with_reducible refine Ev.ifExp ?_
  | ((with_reducible refine Ev.cmp ?_ ?evm); (case evm => with_unfolding_all rfl))
  | with_reducible refine Ev.tuple ?_
  | with_reducible refine Ev.list ?_
  | with_reducible refine El.nil ?_
  | ((with_reducible refine El.cons ?_ ?elh); (case elh => rfl)))

/-- the feed -/
noncomputable def feedD (a : Addr) (cells : List Int) (s : Nat) : Ds := [(a, .strs [("cells", .lst (ints' cells)), ("spot", .int (s : Int))])]
section
variable {B : Bs} {A : Around} {δ : Ds} {n : Nat} {a : Addr} {cells : List Int}
theorem feed_mem {s : Nat} : (a, DC.strs [("cells", .lst (ints' cells)), ("spot", .int (s : Int))]) ∈ feedD a cells s := List.mem_cons_self
theorem mul_ok {i j : Int} (hi : 0 ≤ i) (h1 : i ≤ 10000000) : IntMulOk i j := by
  refine IntMulOk.of_left ?_
  unfold Builtin.Int.intBits
  split
  · omega
  · rename_i h0
    have h0' : i ≠ 0 := by simpa using h0
    have h3 : i.natAbs < 2 ^ 63 := by omega
    have := Nat.log2_lt (by omega : i.natAbs ≠ 0) |>.mpr h3
    omega
theorem fmod_nat {x : Int} {w : Nat} (hw : 0 < w) : ∃ k : Nat, k < w ∧ x.fmod (w : Int) = (k : Int) := by
  have h1 : 0 ≤ x.fmod (w : Int) := Int.fmod_nonneg_of_pos x (by omega)
  have h2 : x.fmod (w : Int) < w := Int.fmod_lt_of_pos x (by omega)
  exact ⟨(x.fmod (w : Int)).toNat, by omega, by omega⟩
theorem co_law_next (G : Ok B) (hA : AOk 1 A) {s w : Nat} (hs : s ≤ 10000) (hc : cells.length < 64) (hw : 0 < w) :
    Co B A (.ref 187) [.dict a, .int (w : Int)] (feedD a cells s) fun r δ' => (∃ k : Nat, k < w ∧ r = .int (k : Int)) ∧ δ' = feedD a cells (s + 1) := by
  refine Co.fn (fn_law_next G.hK) hA (by kernel_rfl) fun A' L qual code hA' O hC => ?_
  refine Ex.cons rfl ?_
  refine Ex.assign O (.inl (by kernel_rfl)) ?_ rfl
  refine Ev.sub ?_
  walk_at "ev"
  walk_at "ev"
  refine Sb.str feed_mem rfl ?_
  refine Ex.vars [("feed", .dict a), ("wide", .int (w : Int)), ("spot", .int (s : Int))] (SubV.ofMap rfl) ?_
  refine Ex.cons rfl ?_
  refine Ex.setItem ?_ rfl
  walk_at "ev"
  walk_at "ev"
  walk_at "ev"
  refine Bin.addI ?_
  walk_at "ev"
  walk_at "ev"
  refine SetD.str (δ1 := []) (δ2 := []) (by rw [sizeLine_eq]; simp) ?_
  have ef : ([] : Ds) ++ (a, DC.strs (storedM [(("cells" : Str), MV.lst (ints' cells)), (("spot" : Str), .int (s : Int))] "spot" (.int ((s : Int) + 1)))) :: [] = feedD a cells (s + 1) := by
    have : ((s : Int) + 1) = ((s + 1 : Nat) : Int) := by push_cast; rfl
    rw [this]; rfl
  rw [ef]
  refine Ex.cons rfl ?_
  have fin : ∀ {x : Int}, ∃ δ₁ δ₂, feedD a cells (s + 1) = δ₁ ++ δ₂ ∧ dom δ₁ = dom (feedD a cells s) ∧ (∃ k : Nat, k < w ∧ MV.int (x.fmod (w : Int)) = .int (k : Int)) ∧ δ₁ = feedD a cells (s + 1) := fun {x} => by
    obtain ⟨k, hk, e⟩ := fmod_nat (x := x) hw
    exact ⟨_, [], (List.append_nil _).symm, rfl, ⟨k, hk, by rw [e]⟩, rfl⟩
  have hcl : (ints' cells).length = cells.length := List.length_map ..
  refine Ex.ifq (c := decide (s < cells.length)) (Etq.cmp ?_) (fun hb => ?_) (fun hb => ?_)
  · walk_at "ev"
    refine Ev.call O (by kernel_rfl) (g_len G) Kp.builtin ?_
    walk_at "ev"
    refine Ev.sub ?_
    walk_at "ev"
    walk_at "ev"
    refine Sb.str feed_mem rfl ?_
    walk_at "ev"
    refine Co.quiet (len_l (sz64 hc) ?_)
    refine (Cmp.ltI ⟨rfl, ?_⟩).d
    rw [hcl]
    exact decide_eq_decide.mpr Int.ofNat_lt
  · have hlt := of_decide_eq_true hb
    refine Ex.cons rfl (Ex.ret ?_)
    walk_at "ev"
    refine Ev.call O (by kernel_rfl) (g_int G) Kp.type ?_
    walk_at "ev"
    refine Ev.sub (Ev.sub ?_)
    walk_at "ev"
    walk_at "ev"
    refine Sb.str feed_mem rfl ?_
    walk_at "ev"
    refine Sb.listI (k := s) (m := .int cells[s]) (sz64 hc) (by rw [List.getElem?_map, List.getElem?_eq_getElem hlt]; rfl) ?_
    walk_at "ev"
    refine Co.quiet (int_int ?_)
    walk_at "ev"
    refine Bin.modI (by omega) ?_
    exact fin
  refine Ex.nil (Ex.cons rfl (Ex.ret ?_))
  walk_at "ev"
  walk_at "ev"
  walk_at "ev"
  walk_at "ev"
  walk_at "ev"
  walk_at "ev"
  walk_at "ev"
  walk_at "ev"
  walk_at "ev"
  refine Bin.mulI ?_ (mul_ok (by omega) (by omega))
  walk_at "ev"
  refine Bin.mulI ?_ (mul_ok (by omega) (by omega))
  walk_at "ev"
  walk_at "ev"
  walk_at "ev"
  refine Bin.mulI ?_ (mul_ok (by omega) (by omega))
  refine Bin.addI ?_
  walk_at "ev"
  walk_at "ev"
  refine Ev.call O (by kernel_rfl) (g_len G) Kp.builtin ?_
  walk_at "ev"
  refine Ev.sub ?_
  walk_at "ev"
  walk_at "ev"
  refine Sb.str feed_mem rfl ?_
  walk_at "ev"
  refine Co.quiet (len_l (sz64 hc) ?_)
  refine Bin.mulI ?_ (mul_ok (by omega) (by omega))
  refine Bin.addI ?_
  walk_at "ev"
  refine Bin.addI ?_
  walk_at "ev"
  refine Bin.modI (by omega) ?_
  walk_at "ev"
  refine Bin.modI (by omega) ?_
  exact fin
end
end
end Mine

/- part RH -/
namespace Mine
noncomputable section
open PySem PySem.W PySem.Calls PyProof.Rows

local macro_rules | `(tactic| walk_at "ev") => `(tactic| first
  | with_reducible refine Ev.int ?_
  | with_reducible refine Ev.str ?_
  | with_reducible refine Ev.bool ?_
  | with_reducible refine Ev.none_ ?_
  | ((with_reducible refine' Ev.name (by assumption) ?evn ?_); (case evn => rfl))
  | ((with_reducible refine' Ev.globT (by assumption) (by kernel_rfl) ?evg ?_); (case evg => first | exact g_int (by assumption) | exact g_bool (by assumption) | exact g_str (by assumption) | exact g_tuple (by assumption)))
  | with_reducible refine Ev.bin ?_
  | with_reducible refine Ev.un ?_
  | with_reducible refine Ev.ifExp ?_
  | ((with_reducible refine Ev.cmp ?_ ?evm); (case evm => with_unfolding_all rfl))
  | with_reducible refine Ev.tuple ?_
  | with_reducible refine Ev.list ?_
  | with_reducible refine El.nil ?_
  | ((with_reducible refine El.cons ?_ ?elh); (case elh => rfl)))

theorem Etq.cmp2 {B : Bs} {A : Around} {env : Env} {ρ : Vs} {δ : Ds} {l r₁ r₂ : Expr} {op₁ op₂ : CmpOp} {pos : Pos} {b : Bool}
    (h : Ev B A env (eval l env) ρ δ fun a δ₁ => Ev B A env (eval r₁ env) ρ δ₁ fun c δ₂ => CmpD B A op₁ δ₂ a c fun t => if t then Ev B A env (eval r₂ env) ρ δ₂ fun d δ₃ => CmpD B A op₂ δ₃ c d fun t2 => δ₃ = δ ∧ t2 = b else δ₂ = δ ∧ false = b)
    (hm : lastMarks [op₁, op₂] [r₁, r₂] = false := by with_unfolding_all rfl) : Etq B A env (.Compare l [op₁, op₂] [r₁, r₂] pos) ρ δ b := Et.cmp2 h hm
noncomputable def clauseS (nm : Nat) : Int → List Int → Bool
  | _, [] => true
  | a, x :: r => (decide (a < absI x) && decide (absI x < nm)) && clauseS nm (absI x) r
section
variable {B : Bs} {A : Around} {δ : Ds} {n : Nat} {l : List MV} {P : MV → Prop} {X : Wd B}
theorem inst_at {a d : Addr} {es : List DictEntry} {n : Nat} {C : Addr} (h1 : X.g a = some (instObj C d)) (h2 : X.g d = some (PySem.W.dictOf es n)) {tk : Nat} : PySem.W.InstAt (St B X.h tk).heap a (instObj C d) C (some (PySem.W.dictOf es n)) :=
  ⟨X.sub _ _ h1, rfl, rfl, X.sub _ _ h2⟩
theorem At.names (G : Ok B) (h : P (.lst l)) : At B A (.inst l) "names" P := fun X u ⟨a, d, es, n, b, vs, k, e, h1, h2, h3, h4, h5, rl⟩ tk => by
  subst e
  have hcl := G.cl
  rw [hcl] at h1
  have K1 := X.inK
  rw [G.hK] at K1
  refine PySem.W.get_value (K := HK B.w.params) (C := 176) K1 (inst_at h1 h2) (by kernel_rfl) (v := .ref b) (PySem.W.findObj_own (attr := Option.none) (by kernel_rfl) (by kernel_rfl) (by kernel_rfl) h3) rfl ?_
  exact ⟨X, tk + 1, rfl, Le.refl _ _, _, h, b, vs, k, rfl, h5, rl⟩
theorem Gm.inst (G : Ok B) {name : Str} {f : Addr} (hf : findIn (HK B.w.params) (.ref 176) name = some (some (.ref f))) (ht : typeIn (HK B.w.params) (.ref f) = some (.type "function")) (hn : name = "is_clause" ∨ name = "resolve_fault" ∨ name = "fault_of") : Gm B A (.inst l) name (.ref f) := fun X u pl tk Q E ⟨a, d, es, n, b, vs, k, e, h1, h2, h3, h4, h5, rl⟩ q => by
  subst e
  have hcl := G.cl
  rw [hcl] at h1
  have K1 := X.inK
  rw [G.hK] at K1
  have hg : getL name es = some Option.none := by
    rcases hn with rfl | rfl | rfl
    · exact h4.1
    · exact h4.2.1
    · exact h4.2.2
  refine PySem.W.method_fn (K := HK B.w.params) (C := 176) K1 (inst_at h1 h2) (by kernel_rfl) (by kernel_rfl) hf ht (by show (lookIn name (PySem.W.dictOf es n)).map _ = some false; rw [show lookIn name (PySem.W.dictOf es n) = getL name es from rfl, hg]; rfl) q
theorem co_is_clause (G : Ok B) (hA : AOk 2 A) {t : Bool} {c : List Int} (hc : c.length < 64) (hl : l.length < 64) : Co B A (.ref 104) [.inst l, seqV t (ints' c)] δ fun r δ' => r = .bool (t && clauseS l.length 0 c) ∧ δ' = δ := by
  refine Co.fn0 (fn_is_clause G.hK) hA (by kernel_rfl) fun A' L qual code hA' O hC => ?_
  refine Ex.cons rfl ?_
  refine Ex.ifq (c := !t) (Etq.not ?_) (fun hb => ?_) (fun hb => ?_)
  · refine Et.value ?_
    refine Ev.call O (by kernel_rfl) (g_isinstance G) Kp.builtin ?_
    walk_at "ev"; walk_at "ev"; walk_at "ev"; walk_at "ev"; walk_at "ev"
    exact Co.quiet (isiTup ⟨_, rfl, rfl, rfl⟩)
  · refine Ex.cons rfl (Ex.ret ?_)
    walk_at "ev"
    have : t = false := by simpa using hb
    subst this
    rfl
  have ht : t = true := by simpa using hb
  subst ht
  refine Ex.nil (Ex.cons rfl ?_)
  refine Ex.assign O (.inl (by kernel_rfl)) ?_ rfl
  walk_at "ev"
  refine Ex.vars [("self", .inst l), ("clause", .tup (ints' c)), ("ahead", .int 0)] (SubV.ofMap rfl) ?_
  refine Ex.cons rfl ?_
  refine Ex.for_ (x := "literal") O hA'.hh (.inl (by kernel_rfl)) ?_
  walk_at "ev"
  refine ⟨_, It.tup hA'.hh, fun items e => ?_⟩
  subst e
  refine ForOk.run (fun x => MV.int x) (fun r ρ δ' => δ' = [] ∧ ∃ a : Int, SubV [("self", .inst l), ("ahead", .int a)] ρ ∧ clauseS l.length 0 c = clauseS l.length a r) ?_ ?_ _ _ _ ⟨rfl, 0, (SubV.ofMap rfl), rfl⟩
  · rintro x r ρ δ' ⟨rfl, a, hV, hS⟩
    refine Ex.vars [("literal", .int x), ("self", .inst l), ("ahead", .int a)] (SubV.set1 hV (by kernel_rfl)) ?_
    refine Ex.cons rfl ?_
    refine Ex.ifq (Etq.or2 (b := false) (c := !(decide (a < absI x) && decide (absI x < (l.length : Int)))) (Etq.not (b := true) ?_) fun _ => Etq.not (Etq.cmp2 ?_)) (fun hb => ?_) (fun hb => ?_)
    · refine Et.value ?_
      refine Ev.call O (by kernel_rfl) (g_is_number G) (fn_is_number G.hK).kp ?_
      walk_at "ev"; walk_at "ev"; walk_at "ev"
      exact Co.fnKeep (co_is_number G (hA'.less (by omega)) (.int x)) fun m e => ⟨true, e, rfl, rfl⟩
    · walk_at "ev"
      refine Ev.call O (by kernel_rfl) (g_abs G) Kp.builtin ?_
      walk_at "ev"; walk_at "ev"; walk_at "ev"
      refine Co.quiet (abs_int ?_)
      refine (Cmp.ltI ?_).d
      show if decide (a < absI x) = true then _ else _
      cases h1 : decide (a < absI x) with
      | false => exact ⟨rfl, rfl⟩
      | true =>
        rw [if_pos rfl]
        refine Ev.call O (by kernel_rfl) (g_len G) Kp.builtin ?_
        walk_at "ev"
        refine Ev.attr ?_ (by with_unfolding_all rfl)
        walk_at "ev"
        refine At.names G ?_
        walk_at "ev"
        refine Co.quiet (len_l (lt64 hl) ?_)
        exact (Cmp.ltI ⟨rfl, rfl⟩).d
    · refine Ex.cons rfl (Ex.ret ?_)
      walk_at "ev"
      show MV.bool false = MV.bool (true && clauseS l.length 0 c)
      rw [hS]
      unfold clauseS
      rw [Bool.false_or, Bool.not_eq_true'] at hb
      rw [hb]; rfl
    · refine Ex.nil (Ex.cons rfl ?_)
      refine Ex.assign O (.inl (by kernel_rfl)) ?_ rfl
      refine Ev.call O (by kernel_rfl) (g_abs G) Kp.builtin ?_
      walk_at "ev"; walk_at "ev"; walk_at "ev"
      refine Co.quiet (abs_int ?_)
      refine Ex.nil ⟨rfl, absI x, (SubV.ofMap rfl), ?_⟩
      rw [hS]
      rw [clauseS]
      rw [Bool.false_or, Bool.not_eq_false'] at hb
      rw [hb, Bool.true_and]
  · rintro ρ δ' ⟨rfl, a, hV, hS⟩
    refine Ex.cons rfl (Ex.ret ?_)
    walk_at "ev"
    show MV.bool true = MV.bool (true && clauseS l.length 0 c)
    rw [hS]; rfl
end
end
end Mine

/- part RI -/
namespace Mine
noncomputable section
open PySem PySem.W PySem.Calls PyProof.Rows

local macro_rules | `(tactic| walk_at "ev") => `(tactic| first
  | with_reducible refine Ev.int ?_
  | with_reducible refine Ev.str ?_
  | with_reducible refine Ev.bool ?_
  | with_reducible refine Ev.none_ ?_
  | ((with_reducible refine' Ev.name (by assumption) ?evn ?_); (case evn => rfl))
  | ((with_reducible refine' Ev.globT (by assumption) (by kernel_rfl) ?evg ?_); (case evg => first | exact g_int (by assumption) | exact g_bool (by assumption) | exact g_str (by assumption) | exact g_tuple (by assumption)))
  | with_reducible refine Ev.bin ?_
  | with_reducible refine Ev.un ?_
  | with_reducible refine Ev.ifExp ?_
  | ((with_reducible refine Ev.cmp ?_ ?evm); (case evm => with_unfolding_all rfl))
  | with_reducible refine Ev.tuple ?_
  | with_reducible refine Ev.list ?_
  | with_reducible refine El.nil ?_
  | ((with_reducible refine El.cons ?_ ?elh); (case elh => rfl)))

noncomputable def hereD (here : List Int) : DC := .ints (here.map fun x => (x, MV.bool true))
noncomputable def addI (here : List Int) (x : Int) : List Int := if x ∈ here then here else here ++ [x]
theorem atM_here (x : Int) : ∀ here : List Int, (atM (here.map fun x => (x, MV.bool true)) x).isSome = decide (x ∈ here)
  | [] => rfl
  | y :: r => by
    have ih := atM_here x r
    unfold atM at ih ⊢
    rw [List.map_cons, List.find?_cons]
    by_cases h : y = x
    · subst h; simp
    · have : ¬ x = y := fun e => h e.symm
      simp only [h, decide_false]
      rw [ih]
      simp [this]
theorem stored_here (x : Int) (here : List Int) : storedM (here.map fun x => (x, MV.bool true)) x (.bool true) = (addI here x).map fun x => (x, MV.bool true) := by
  unfold storedM addI
  have e : ((here.map fun x => (x, MV.bool true)).any fun kv => decide (kv.1 = x)) = decide (x ∈ here) := by
    rw [List.any_map]
    rw [Bool.eq_iff_iff, List.any_eq_true, decide_eq_true_iff]
    refine ⟨fun ⟨y, hy, e⟩ => ?_, fun h => ⟨x, h, by simp⟩⟩
    have : y = x := by simpa using e
    exact this ▸ hy
  rw [e]
  by_cases h : x ∈ here
  · simp only [h, decide_true, if_true]
    rw [List.map_map]
    refine List.map_congr_left fun y hy => ?_
    show (if y = x then (y, MV.bool true) else (y, MV.bool true)) = _
    split <;> rfl
  · simp only [h, decide_false, Bool.false_eq_true, if_false]
    rw [List.map_append]; rfl
theorem without_here (x : Int) (here : List Int) : withoutM (here.map fun x => (x, MV.bool true)) x = (here.filter fun y => decide (y ≠ x)).map fun x => (x, MV.bool true) := by
  unfold withoutM
  rw [List.filter_map]; rfl
noncomputable def addAll (here c : List Int) : List Int := c.foldl addI here
noncomputable def loopH (k : Int) : List Int → List Int → Except String (List Int)
  | here, [] => .ok here
  | here, x :: r => if x ≠ -k then (if -x ∈ here then .error "tautology" else loopH k (addI here x) r) else loopH k here r
noncomputable def stepH (here : List Int) (p : Int) (c : List Int) : Except String (List Int) :=
  if p ∈ here ∧ -p ∈ c then loopH p (here.filter fun y => decide (y ≠ p)) c
  else if -p ∈ here ∧ p ∈ c then loopH (-p) (here.filter fun y => decide (y ≠ -p)) c
  else .error "pivot"
noncomputable def chainH : List Int → List (Int × List Int) → Except String (List Int)
  | h, [] => .ok h
  | h, (p, c) :: r => match stepH h p c with
    | .ok h' => chainH h' r
    | .error w => .error w
noncomputable def resS (cs : List (List Int)) (clause : List Int) (ps : List Nat) (t : Bool) (l : List MV) : String :=
  match ps with
  | [] => "premise"
  | p0 :: pr => if t && decide (l.length = pr.length) then
      if l.any badN then "note" else
        match chainH (addAll [] (cs.getD p0 [])) ((l.map numI).zip (pr.map fun k => cs.getD k [])) with
        | .error w => w
        | .ok here => if isort here = isort clause then "" else "result"
    else "note"
/-- what here keeps -/
noncomputable def HOk (here : List Int) : Prop := here.Nodup ∧ LitOk here
theorem len_le_of : ∀ {l L : List Int}, l.Nodup → (∀ x ∈ l, x ∈ L) → l.length ≤ L.length
  | [], _, _, _ => Nat.zero_le _
  | x :: r, L, hn, hs => by
    have hn' := List.nodup_cons.mp hn
    have hx := hs x List.mem_cons_self
    have := len_le_of (l := r) (L := L.erase x) hn'.2 fun y hy => (List.mem_erase_of_ne (fun (e : y = x) => hn'.1 (by rw [← e]; exact hy))).mpr (hs y (List.mem_cons_of_mem _ hy))
    rw [List.length_erase_of_mem hx] at this
    have : 0 < L.length := List.length_pos_of_mem hx
    rw [List.length_cons]; omega
theorem HOk.len {here : List Int} (h : HOk here) : here.length ≤ 10 := by
  refine len_le_of (L := [1, 2, 3, 4, 5, -1, -2, -3, -4, -5]) h.1 fun x hx => ?_
  have := h.2 x hx
  simp only [U5, List.mem_cons, List.not_mem_nil, or_false] at this
  rcases this with h | h | h | h | h <;> (rcases Int.natAbs_eq x with e | e <;> (rw [h] at e; subst e; decide))
theorem HOk.add {here : List Int} {x : Int} (h : HOk here) (hx : x.natAbs ∈ U5) : HOk (addI here x) := by
  unfold addI
  split
  · exact h
  · rename_i hn
    refine ⟨?_, fun y hy => ?_⟩
    · rw [List.nodup_append]
      exact ⟨h.1, by simp, fun a ha b hb => by simp at hb; subst hb; exact fun e => hn (e ▸ ha)⟩
    · rcases List.mem_append.mp hy with q | q
      · exact h.2 y q
      · rw [List.mem_singleton.mp q]; exact hx
theorem HOk.filter {here : List Int} {p : Int → Bool} (h : HOk here) : HOk (here.filter p) := ⟨h.1.filter _, fun x hx => h.2 x (List.mem_filter.mp hx).1⟩
theorem addAll_ok {c : List Int} : ∀ {here : List Int}, HOk here → LitOk c → HOk (addAll here c) := by
  induction c with
  | nil => intro here h _; exact h
  | cons x r ih => intro here h hc; exact ih (h.add (hc x List.mem_cons_self)) fun y hy => hc y (List.mem_cons_of_mem _ hy)
theorem loopH_ok {k : Int} {c : List Int} : ∀ {here h' : List Int}, HOk here → LitOk c → loopH k here c = .ok h' → HOk h' := by
  induction c with
  | nil => intro here h' h _ e; cases e; exact h
  | cons x r ih =>
    intro here h' h hc e
    rw [loopH] at e
    split at e
    · split at e
      · cases e
      · exact ih (h.add (hc x List.mem_cons_self)) (fun y hy => hc y (List.mem_cons_of_mem _ hy)) e
    · exact ih h (fun y hy => hc y (List.mem_cons_of_mem _ hy)) e
theorem stepH_ok {here h' : List Int} {p : Int} {c : List Int} (h : HOk here) (hc : LitOk c) (e : stepH here p c = .ok h') : HOk h' := by
  unfold stepH at e
  split at e
  · exact loopH_ok h.filter hc e
  · split at e
    · exact loopH_ok h.filter hc e
    · cases e
section
variable {B : Bs} {A : Around} {δ : Ds} {n : Nat}
noncomputable def stepsX (cs : List (List Int)) (ext : List MV) : MV := .lst (cs.map stepV ++ ext)
theorem stepsX_get {cs : List (List Int)} {ext : List MV} {k : Nat} (hk : k < cs.length) : (cs.map stepV ++ ext)[k]? = some (stepV (cs.getD k [])) := by
  rw [List.getElem?_append_left (by rw [List.length_map]; exact hk)]; exact stepsV_get hk
theorem seqV_true {l : List MV} : seqV true l = .tup l := rfl
noncomputable abbrev RsV (cs : List (List Int)) (ext : List MV) (clause : List Int) (p0 : Nat) (pr : List Nat) (js : List Int) (a : Addr) : Vs := [("steps", stepsX cs ext), ("clause", .tup (ints' clause)), ("premises", natsV (p0 :: pr)), ("note", .tup (js.map .int)), ("here", .dict a)]
noncomputable abbrev RsH (a : Addr) (V : Vs) (c0 : List Int) (r : List Int) (ρ : Vs) (δ' : Ds) : Prop := ∃ here, δ' = [(a, hereD here)] ∧ HOk here ∧ LitOk r ∧ SubV V ρ ∧ addAll [] c0 = addAll here r
noncomputable abbrev RsJ (a : Addr) (V : Vs) (cs : List (List Int)) (js : List Int) (pr : List Nat) (w : Except String (List Int)) (r : List (Nat × (Int × Nat))) (ρ : Vs) (δ' : Ds) : Prop := ∃ h, δ' = [(a, hereD h)] ∧ HOk h ∧ SubV V ρ ∧
    (∀ q ∈ r, js[q.1]? = some q.2.1 ∧ pr[q.1]? = some q.2.2) ∧ w = chainH h (r.map fun q => (q.2.1, cs.getD q.2.2 []))
noncomputable abbrev RsM (a : Addr) (V : Vs) (h : List Int) (j : Int) (ck : List Int) : MF → Vs → Ds → Prop := fun f ρ' δ' => δ' = [(a, hereD h)] ∧ match f with
      | .next => ∃ kp : Int, kp ∈ h ∧ SubV (("kept", .int kp) :: ("other", .tup (ints' ck)) :: V) ρ' ∧ stepH h j ck = loopH kp (h.filter fun y => decide (y ≠ kp)) ck
      | .ret v => stepH h j ck = .error "pivot" ∧ v = .str "pivot"
      | _ => False
noncomputable abbrev RsK (a : Addr) (V : Vs) (kp : Int) (w : Except String (List Int)) (r2 : List Int) (ρ : Vs) (δ' : Ds) : Prop := ∃ g, δ' = [(a, hereD g)] ∧ HOk g ∧ LitOk r2 ∧ SubV (("kept", .int kp) :: V) ρ ∧ w = loopH kp g r2
theorem co_resolve_fault (G : Ok B) (hA : AOk 2 A) {nl : List MV} {cs : List (List Int)} {ext : List MV} {clause : List Int} {ps : List Nat} {t : Bool} {l : List MV} (hcs : StepsOk cs) (hext : ext.length < 64) (hcl : clause.length < 64) (hps : ps.length < 64) (hpk : ∀ k ∈ ps, k < cs.length) (hl : l.length < 64) (hsm : ∀ m ∈ l, Small m) :
    Co B A (.ref 149) [.inst nl, stepsX cs ext, .tup (ints' clause), natsV ps, seqV t l] δ fun r δ' => r = .str (Str.ofString (resS cs clause ps t l)) ∧ δ' = δ := by
  have hsx : (cs.map stepV ++ ext).length ≤ sizeLine := by rw [List.length_append, List.length_map, sizeLine_eq]; have := hcs.1; omega
  refine Co.fn0 (fn_resolve_fault G.hK) hA (by kernel_rfl) fun A' L qual code hA' O hC => ?_
  refine Ex.cons rfl ?_
  refine Ex.ifq (c := decide (ps.length = 0)) (Etq.cmp ?_) (fun hb => ?_) (fun hb => ?_)
  · refine Ev.call O (by kernel_rfl) (g_len G) Kp.builtin ?_
    walk_at "ev"; walk_at "ev"; walk_at "ev"
    refine Co.quiet (len_t (by rw [List.length_map]; exact lt64 hps) ?_)
    walk_at "ev"
    refine (Cmp.eqI ⟨rfl, ?_⟩).d
    rw [List.length_map]
    by_cases h : ps.length = 0
    · simp [h]
    · have : ((ps.length : Nat) : Int) ≠ 0 := by omega
      simp [h]
  · refine Ex.cons rfl (Ex.ret ?_)
    walk_at "ev"
    have : ps = [] := List.length_eq_zero_iff.mp (of_decide_eq_true hb)
    subst this
    rfl
  refine Ex.nil ?_
  cases ps with
  | nil => simp at hb
  | cons p0 pr =>
  refine Ex.cons rfl ?_
  refine Ex.ifq (Etq.or2 (b := !(t && decide (l.length = pr.length))) (c := !(l.filter badN).isEmpty) (Etq.not ?_) fun ht => Etq.cmp ?_) (fun hb => ?_) (fun hb => ?_)
  · refine Et.value ?_
    refine Ev.call O (by kernel_rfl) (g_is_tuple_of G) (fn_is_tuple_of G.hK).kp ?_
    walk_at "ev"
    walk_at "ev"
    walk_at "ev"
    walk_at "ev"
    refine Ev.call O (by kernel_rfl) (g_len G) Kp.builtin ?_
    walk_at "ev"; walk_at "ev"; walk_at "ev"
    refine Co.quiet (len_t (by rw [List.length_map]; exact lt64 hps) ?_)
    walk_at "ev"
    refine Bin.subI ?_
    walk_at "ev"
    refine Co.fnKeep (co_is_tuple_of G (hA'.less (by omega)) (lt64 hl)) fun m e => ⟨_, e, rfl, ?_⟩
    congr 1
    rw [List.length_map, List.length_cons]
    exact decide_eq_decide.mpr ⟨fun h => by push_cast at h; omega, fun h => by push_cast; omega⟩
  · have ht2 : t = true ∧ l.length = pr.length := by cases t <;> simp_all
    obtain ⟨rfl, hlen⟩ := ht2
    refine Ev.comp' O hA'.hh ?cb ?_
    (case cb => kernel_rfl)
    walk_at "ev"
    refine ⟨_, It.tup hA'.hh, fun items e => ?_⟩
    subst e
    refine ⟨lt64 hl, fun C OC => CpOk.filtM badN (fun m => m) _ [] (fun m hm => ?_) (fun m hm _ => ?_) ?_⟩
    · have hs := hsm m hm
      have e : badN m = (!(isNum m) || decide (numI m < 1)) := by cases hs <;> rfl
      rw [e]
      refine Etq.or2 (Etq.not (b := isNum m) ?_) fun hi => Etq.cmp ?_
      · refine Et.value ?_
        refine Ev.call OC (by kernel_rfl) (g_is_number G) (fn_is_number G.hK).kp ?_
        walk_at "ev"; walk_at "ev"; walk_at "ev"
        exact Co.fnKeep (co_is_number G (hA'.less (by omega)) hs) fun m e => ⟨_, e, rfl, rfl⟩
      · have hi' : isNum m = true := (Bool.not_eq_false' _).mp hi
        cases hs <;> first | cases hi' | skip
        walk_at "ev"
        walk_at "ev"
        exact (Cmp.ltI ⟨rfl, rfl⟩).d
    · walk_at "ev"
      exact ⟨rfl, rfl⟩
    rw [List.nil_append, List.map_id']
    walk_at "ev"
    walk_at "ev"
    refine ⟨by rw [sizeLine_eq]; simp, ?_⟩
    exact (Cmp.neNilL hA'.u (fun m hm => small_flat (hsm m (List.mem_filter.mp hm).1)) ⟨rfl, rfl⟩).d
  · refine Ex.cons rfl (Ex.ret ?_)
    walk_at "ev"
    show MV.str _ = MV.str _
    unfold resS
    cases h1 : (t && decide (l.length = pr.length)) with
    | false => simp only [h1, Bool.false_eq_true, if_false]
    | true =>
      rw [h1] at hb
      have h2 : l.any badN = true := by
        rw [Bool.not_true, Bool.false_or, Bool.not_eq_true'] at hb
        cases hf : l.filter badN with
        | nil => rw [hf] at hb; simp at hb
        | cons y r =>
          have : y ∈ l.filter badN := by rw [hf]; exact List.mem_cons_self
          exact List.any_eq_true.mpr ⟨y, List.mem_filter.mp this⟩
      simp only [h1, if_true, h2]
  refine Ex.nil ?_
  have hbb : (t && decide (l.length = pr.length)) = true ∧ (l.filter badN).isEmpty = true := by
    rw [Bool.or_eq_false_iff, Bool.not_eq_false', Bool.not_eq_false'] at hb
    exact hb
  have htl : t = true ∧ l.length = pr.length := by
    have := hbb.1
    rw [Bool.and_eq_true, decide_eq_true_iff] at this
    exact this
  obtain ⟨rfl, hlen⟩ := htl
  have hnb : l.any badN = false := by
    rw [Bool.eq_false_iff]
    intro h
    obtain ⟨y, hy, e⟩ := List.any_eq_true.mp h
    have : y ∈ l.filter badN := List.mem_filter.mpr ⟨hy, e⟩
    rw [List.isEmpty_iff.mp hbb.2] at this
    cases this
  have hword : resS cs clause (p0 :: pr) true l = match chainH (addAll [] (cs.getD p0 [])) ((l.map numI).zip (pr.map fun k => cs.getD k [])) with
        | .error w => w
        | .ok here => if isort here = isort clause then "" else "result" := by
    unfold resS
    simp only [hlen, decide_true, Bool.and_self, if_true, hnb, Bool.false_eq_true, if_false]
  rw [hword]
  obtain ⟨js, rfl⟩ : ∃ js : List Int, l = js.map .int := by
    refine ⟨l.map numI, ?_⟩
    rw [List.map_map]
    have : ∀ m ∈ l, (MV.int ∘ numI) m = m := fun m hm => by
      have h1 : badN m = false := by
        have := List.any_eq_false.mp hnb m hm
        simpa using this
      cases m <;> first | rfl | (simp [badN] at h1)
    rw [List.map_congr_left this]; simp
  have hnum : (js.map MV.int).map numI = js := by rw [List.map_map]; simp [Function.comp_def, numI]
  rw [hnum]
  have hjl : js.length = pr.length := by simpa using hlen
  have hp0 : p0 < cs.length := hpk p0 List.mem_cons_self
  have hc0 := hcs.at_ hp0
  refine Ex.cons rfl ?_
  refine Ex.assign O (.inl (by kernel_rfl)) (Ev.dict0 fun a => ?_) rfl
  refine Ex.vars (RsV cs ext clause p0 pr js a) (SubV.ofMap rfl) ?_
  refine Ex.cons rfl ?_
  refine Ex.for_ (x := "literal") O hA'.hh (.inl (by kernel_rfl)) ?_
  refine Ev.sub (Ev.sub ?_)
  walk_at "ev"
  refine Ev.sub ?_
  walk_at "ev"
  walk_at "ev"
  refine Sb.tupI (k := 0) (by rw [List.length_map]; exact lt64 hps) rfl ?_
  refine Sb.listI (k := p0) hsx (stepsX_get hp0) ?_
  walk_at "ev"
  refine Sb.tupI (k := 1) (by rw [sizeLine_eq]; simp) rfl ?_
  refine ⟨_, It.tup hA'.hh, fun items e => ?_⟩
  subst e
  refine ForOk.run (fun x => MV.int x) (RsH a (RsV cs ext clause p0 pr js a) (cs.getD p0 [])) ?_ ?_ _ _ _ ⟨[], rfl, ⟨.nil, fun _ h => nomatch h⟩, hc0.1, (SubV.ofMap rfl), rfl⟩
  · rintro x r ρ δ' ⟨here, rfl, hH, hr, hV, hS⟩
    refine Ex.vars _ (SubV.set1 hV (by kernel_rfl)) ?_
    refine Ex.cons rfl ?_
    refine Ex.setItem ?_ rfl
    walk_at "ev"
    walk_at "ev"
    walk_at "ev"
    refine SetD.int (δ1 := []) (δ2 := []) (by rw [List.length_map]; exact lt64 (by have := hH.len; omega)) ?_
    rw [stored_here]
    exact Ex.nil ⟨addI here x, rfl, hH.add (hr x List.mem_cons_self), fun y hy => hr y (List.mem_cons_of_mem _ hy), (SubV.ofMap rfl), hS⟩
  rintro ρ δ' ⟨here, rfl, hH, _, hV, hS⟩
  refine Ex.vars _ hV ?_
  have hS' : addAll [] (cs.getD p0 []) = here := hS
  rw [hS']
  refine Ex.cons rfl ?_
  refine Ex.for_ (x := "place") O hA'.hh (.inl (by kernel_rfl)) ?_
  refine Ev.call O (by kernel_rfl) (g_range G) Kp.type ?_
  walk_at "ev"
  walk_at "ev"
  walk_at "ev"
  refine Ev.call O (by kernel_rfl) (g_len G) Kp.builtin ?_
  walk_at "ev"; walk_at "ev"; walk_at "ev"
  refine Co.quiet (len_t (by rw [List.length_map]; exact lt64 hps) ?_)
  walk_at "ev"
  refine Co.quiet (range2 ?_)
  have hps' : pr.length < 63 := by have := hps; rw [List.length_cons] at this; omega
  refine ⟨_, It.rng hA'.hh (by omega) (by rw [List.length_map, List.length_cons]; omega) (by rw [List.length_map, List.length_cons]; omega), fun items e => ?_⟩
  subst e
  have en : (((List.map (fun (k : Nat) => MV.int (k : Int)) (p0 :: pr)).length : Int) - 1).toNat = pr.length := by rw [List.length_map, List.length_cons]; omega
  rw [en]
  have el : (List.range pr.length).map (fun (k : Nat) => MV.int (1 + (k : Int))) = ((List.range pr.length).zip (js.zip pr)).map fun q => MV.int (1 + (q.1 : Int)) := by
    have : ((List.range pr.length).zip (js.zip pr)).map (fun q => q.1) = List.range pr.length := List.map_fst_zip (by simp [hjl])
    have h2 := congrArg (List.map fun (k : Nat) => MV.int (1 + (k : Int))) this
    rw [List.map_map] at h2
    exact h2.symm
  have ec : js.zip (pr.map fun k => cs.getD k []) = ((List.range pr.length).zip (js.zip pr)).map fun q => (q.2.1, cs.getD q.2.2 []) := by
    have : ((List.range pr.length).zip (js.zip pr)).map (fun q => q.2) = js.zip pr := List.map_snd_zip (by simp [hjl])
    have h2 := congrArg (List.map fun (q : Int × Nat) => (q.1, cs.getD q.2 [])) this
    rw [List.map_map] at h2
    rw [List.zip_map_right]
    exact h2.symm
  have hat : ∀ q ∈ (List.range pr.length).zip (js.zip pr), js[q.1]? = some q.2.1 ∧ pr[q.1]? = some q.2.2 := fun q hq => by
    obtain ⟨i, hi, e⟩ := List.mem_iff_getElem.mp hq
    rw [List.getElem_zip] at e
    have hi1 : i < pr.length := by simp at hi; omega
    have hi2 : i < js.length := by omega
    subst e
    simp only [List.getElem_range, List.getElem_zip]
    exact ⟨List.getElem?_eq_getElem hi2, List.getElem?_eq_getElem hi1⟩
  rw [el, ec]
  refine ForOk.run (fun q : Nat × (Int × Nat) => MV.int (1 + (q.1 : Int))) (RsJ a (RsV cs ext clause p0 pr js a) cs js pr (chainH here (((List.range pr.length).zip (js.zip pr)).map fun q => (q.2.1, cs.getD q.2.2 [])))) ?_ ?_ _ _ _ ⟨here, rfl, hH, (SubV.ofMap rfl), hat, rfl⟩
  · rintro ⟨i, j, k⟩ r ρ δ' ⟨h, rfl, hh, hV, hq, hch⟩
    obtain ⟨hj, hk⟩ := hq (i, j, k) List.mem_cons_self
    dsimp only at hj hk ⊢
    have hk0 : k < cs.length := hpk k (List.mem_cons_of_mem _ (List.mem_of_getElem? hk))
    have hck := hcs.at_ hk0
    have hch' : chainH h (((i, j, k) :: r).map fun q => (q.2.1, cs.getD q.2.2 [])) = match stepH h j (cs.getD k []) with
      | .ok h' => chainH h' (r.map fun q => (q.2.1, cs.getD q.2.2 []))
      | .error w => .error w := rfl
    rw [hch'] at hch
    generalize hc : cs.getD k [] = ck at hck hch
    refine Ex.vars _ (SubV.set1 hV (by kernel_rfl)) ?_
    refine Ex.cons rfl ?_
    refine Ex.assignSwap (xs := ["pivot", "other"]) O hA'.hh (fun x hx => ?_) ?_ rfl rfl
    · simp only [List.mem_cons, List.not_mem_nil, or_false] at hx
      rcases hx with rfl | rfl <;> exact .inl (by kernel_rfl)
    walk_at "ev"
    walk_at "ev"
    refine Ev.sub ?_
    walk_at "ev"
    walk_at "ev"
    walk_at "ev"
    walk_at "ev"
    refine Bin.subI ?_
    have e1 : (1 + (i : Int)) - 1 = ((i : Nat) : Int) := by omega
    rw [e1]
    refine Sb.tupI (k := i) (m := .int j) (lt64 hl) (by rw [List.getElem?_map, hj]; rfl) ?_
    walk_at "ev"
    refine Ev.sub (Ev.sub ?_)
    walk_at "ev"
    refine Ev.sub ?_
    walk_at "ev"
    walk_at "ev"
    have e2 : (1 + (i : Int)) = ((i + 1 : Nat) : Int) := by push_cast; omega
    rw [e2]
    refine Sb.tupI (k := i + 1) (m := .int (k : Int)) (by rw [List.length_map]; exact lt64 hps) (by rw [List.getElem?_map, List.getElem?_cons_succ, hk]; rfl) ?_
    refine Sb.listI (k := k) hsx (stepsX_get hk0) ?_
    rw [hc]
    walk_at "ev"
    refine Sb.tupI (k := 1) (by rw [sizeLine_eq]; simp) rfl ?_
    walk_at "ev"
    refine ⟨by rw [sizeLine_eq]; simp, _, rfl, rfl, ?_⟩
    refine Ex.vars (("pivot", .int j) :: ("other", .tup (ints' ck)) :: RsV cs ext clause p0 pr js a) (SubV.ofMap rfl) ?_
    refine Ex.cons rfl ?_
    have inO : ∀ (x : Int) {R : Bool → Prop}, R (decide (x ∈ ck)) → Cmp B A' .In (.int x) (.tup (ints' ck)) R := fun x R hR => Cmp.inT (by
      have : ck.any (· == x) = decide (x ∈ ck) := by
        rw [Bool.eq_iff_iff, List.any_eq_true, decide_eq_true_iff]
        exact ⟨fun ⟨y, hy, e⟩ => (eq_of_beq e) ▸ hy, fun hx => ⟨x, hx, by simp⟩⟩
      rw [this]; exact hR)
    have inH : ∀ (x : Int) {R : Bool → Prop}, R (decide (x ∈ h)) → CmpD B A' .In [(a, hereD h)] (.int x) (.dict a) R := fun x R hR => CmpD.inD List.mem_cons_self (by rw [atM_here]; exact hR)
    refine Ex.mono (Q := RsM a (RsV cs ext clause p0 pr js a) h j ck) ?_ ?_
    · refine Ex.ifq (Etq.and2 (b := decide (j ∈ h)) (c := decide (-j ∈ ck)) (Etq.cmp ?_) fun _ => Etq.cmp ?_) (fun hb => ?_) (fun hb => ?_)
      · walk_at "ev"; walk_at "ev"; exact inH j ⟨rfl, rfl⟩
      · walk_at "ev"; walk_at "ev"; refine Un.neg ?_; walk_at "ev"; exact (inO (-j) ⟨rfl, rfl⟩).d
      · rw [Bool.and_eq_true, decide_eq_true_iff, decide_eq_true_iff] at hb
        refine Ex.cons rfl ?_
        refine Ex.assign O (.inl (by kernel_rfl)) ?_ rfl
        walk_at "ev"
        refine Ex.nil ⟨rfl, j, hb.1, (SubV.ofMap rfl), ?_⟩
        unfold stepH
        rw [if_pos hb]
      · have hb1 : ¬ (j ∈ h ∧ -j ∈ ck) := fun q => by rw [decide_eq_true q.1, decide_eq_true q.2] at hb; cases hb
        refine Ex.cons rfl ?_
        refine Ex.ifq (Etq.and2 (b := decide (-j ∈ h)) (c := decide (j ∈ ck)) (Etq.cmp ?_) fun _ => Etq.cmp ?_) (fun hb2 => ?_) (fun hb2 => ?_)
        · walk_at "ev"; walk_at "ev"; refine Un.neg ?_; walk_at "ev"; exact inH (-j) ⟨rfl, rfl⟩
        · walk_at "ev"; walk_at "ev"; exact (inO j ⟨rfl, rfl⟩).d
        · rw [Bool.and_eq_true, decide_eq_true_iff, decide_eq_true_iff] at hb2
          refine Ex.cons rfl ?_
          refine Ex.assign O (.inl (by kernel_rfl)) ?_ rfl
          walk_at "ev"
          walk_at "ev"
          refine Un.neg ?_
          refine Ex.nil (Ex.nil ⟨rfl, -j, hb2.1, (SubV.ofMap rfl), ?_⟩)
          unfold stepH
          rw [if_neg hb1, if_pos hb2]
        · have hb3 : ¬ (-j ∈ h ∧ j ∈ ck) := fun q => by rw [decide_eq_true q.1, decide_eq_true q.2] at hb2; cases hb2
          refine Ex.cons rfl (Ex.ret ?_)
          walk_at "ev"
          refine ⟨rfl, ?_, rfl⟩
          unfold stepH
          rw [if_neg hb1, if_neg hb3]
    · rintro f ρ' δ' ⟨rfl, hf⟩
      cases f with
      | brk => exact hf.elim
      | cont => exact hf.elim
      | ret v =>
        obtain ⟨h1, rfl⟩ := hf
        rw [h1] at hch
        show FnPost _ (.ret _) _ _
        show MV.str _ = MV.str _
        rw [hch]
      | next =>
        obtain ⟨kp, hkp, hV', hst⟩ := hf
        rw [hst] at hch
        refine Ex.vars _ hV' ?_
        refine Ex.cons rfl ?_
        refine Ex.delItem ?_
        walk_at "ev"
        walk_at "ev"
        refine DelD.int (δ1 := []) (δ2 := []) (by rw [List.length_map]; exact lt64 (by have := hh.len; omega)) (by rw [atM_here]; exact decide_eq_true hkp) ?_
        rw [without_here]
        refine Ex.cons rfl ?_
        refine Ex.for_ (x := "literal") O hA'.hh (.inl (by kernel_rfl)) ?_
        walk_at "ev"
        refine ⟨_, It.tup hA'.hh, fun items e => ?_⟩
        subst e
        refine ForOk.run (fun x => MV.int x) (RsK a (RsV cs ext clause p0 pr js a) kp (loopH kp (h.filter fun y => decide (y ≠ kp)) ck)) ?_ ?_ _ _ _ ⟨_, rfl, hh.filter, hck.1, (SubV.ofMap rfl), rfl⟩
        · rintro x r2 ρ2 δ2 ⟨g, rfl, hg, hr2, hV2, hS2⟩
          refine Ex.vars _ (SubV.set1 hV2 (by kernel_rfl)) ?_
          refine Ex.cons rfl ?_
          refine Ex.ifq (c := decide (x ≠ -kp)) (Etq.cmp ?_) (fun hb => ?_) (fun hb => ?_)
          · walk_at "ev"; walk_at "ev"; walk_at "ev"
            refine Un.neg ?_
            refine (Cmp.neI ⟨rfl, ?_⟩).d
            rw [Bool.eq_iff_iff]; simp
          · have hx := of_decide_eq_true hb
            refine Ex.cons rfl ?_
            refine Ex.ifq (c := decide (-x ∈ g)) (Etq.cmp ?_) (fun hb2 => ?_) (fun hb2 => ?_)
            · walk_at "ev"; walk_at "ev"; refine Un.neg ?_; walk_at "ev"
              exact CmpD.inD List.mem_cons_self (by rw [atM_here]; exact ⟨rfl, rfl⟩)
            · refine Ex.cons rfl (Ex.ret ?_)
              walk_at "ev"
              rw [hS2, loopH, if_pos hx, if_pos (of_decide_eq_true hb2)] at hch
              show MV.str _ = MV.str _
              rw [hch]
            · refine Ex.nil (Ex.cons rfl ?_)
              refine Ex.setItem ?_ rfl
              walk_at "ev"
              walk_at "ev"
              walk_at "ev"
              refine SetD.int (δ1 := []) (δ2 := []) (by rw [List.length_map]; exact lt64 (by have := hg.len; omega)) ?_
              rw [stored_here]
              refine Ex.nil (Ex.nil ⟨addI g x, rfl, hg.add (hr2 x List.mem_cons_self), fun y hy => hr2 y (List.mem_cons_of_mem _ hy), (SubV.ofMap rfl), ?_⟩)
              rw [hS2, loopH, if_pos hx, if_neg (of_decide_eq_false hb2)]
          · have hx := of_decide_eq_false hb
            refine Ex.nil (Ex.nil ⟨g, rfl, hg, fun y hy => hr2 y (List.mem_cons_of_mem _ hy), (SubV.ofMap rfl), ?_⟩)
            rw [hS2, loopH, if_neg hx]
        · rintro ρ2 δ2 ⟨g, rfl, hg, _, hV2, hS2⟩
          have hS3 : loopH kp (h.filter fun y => decide (y ≠ kp)) ck = .ok g := hS2
          rw [hS3] at hch
          refine Ex.nil ⟨g, rfl, hg, ?_, fun q hq' => hq q (List.mem_cons_of_mem _ hq'), hch⟩
          obtain ⟨_, v1, v2, v3, v4, v5, _⟩ := hV2
          exact ⟨v1, v2, v3, v4, v5, trivial⟩
  · rintro ρ δ' ⟨h, rfl, hh, hV, _, hch⟩
    refine Ex.vars _ hV ?_
    have hch2 : chainH here (((List.range pr.length).zip (js.zip pr)).map fun q => (q.2.1, cs.getD q.2.2 [])) = .ok h := hch
    refine Ex.cons rfl (Ex.ret ?_)
    refine Ev.ifq (c := decide (isort h = isort clause)) (Et.value ?_) (fun hb => ?_) (fun hb => ?_)
    · refine Ev.call O (by kernel_rfl) (g_are_same_sets G) (fn_are_same_sets G.hK).kp ?_
      walk_at "ev"
      refine Ev.call O (by kernel_rfl) (g_list G) Kp.type ?_
      walk_at "ev"; walk_at "ev"; walk_at "ev"
      refine lst_dict hA'.hh List.mem_cons_self (by rw [List.length_map]; exact lt64 (by have := hh.len; omega)) ?_
      walk_at "ev"
      refine Ev.call O (by kernel_rfl) (g_list G) Kp.type ?_
      walk_at "ev"; walk_at "ev"; walk_at "ev"
      refine Co.quiet (lst_tup (sz64 hcl) ?_)
      walk_at "ev"
      have ek : (h.map fun x => (x, MV.bool true)).map (fun p => MV.int p.1) = ints' h := by rw [List.map_map]; rfl
      rw [ek]
      exact Co.fnKeep (co_are_same_sets G hA' (by have := hh.len; omega) hcl) fun m e => ⟨_, e, rfl, rfl⟩
    · walk_at "ev"
      show MV.str _ = MV.str _
      rw [hch2]
      simp only [of_decide_eq_true hb, if_true]
    · walk_at "ev"
      show MV.str _ = MV.str _
      rw [hch2]
      simp only [of_decide_eq_false hb, if_false]
end
end
end Mine

/- part RJ -/
namespace Mine
noncomputable section
open PySem PySem.W PySem.Calls PyProof.Rows

local macro_rules | `(tactic| walk_at "ev") => `(tactic| first
  | with_reducible refine Ev.int ?_
  | with_reducible refine Ev.str ?_
  | with_reducible refine Ev.bool ?_
  | with_reducible refine Ev.none_ ?_
  | ((with_reducible refine' Ev.name (by assumption) ?evn ?_); (case evn => rfl))
  | ((with_reducible refine' Ev.globT (by assumption) (by kernel_rfl) ?evg ?_); (case evg => first | exact g_int (by assumption) | exact g_bool (by assumption) | exact g_str (by assumption) | exact g_tuple (by assumption)))
  | with_reducible refine Ev.bin ?_
  | with_reducible refine Ev.un ?_
  | with_reducible refine Ev.ifExp ?_
  | ((with_reducible refine Ev.cmp ?_ ?evm); (case evm => with_unfolding_all rfl))
  | with_reducible refine Ev.tuple ?_
  | with_reducible refine Ev.list ?_
  | with_reducible refine El.nil ?_
  | ((with_reducible refine El.cons ?_ ?elh); (case elh => rfl)))

noncomputable def badP (n : Nat) (m : MV) : Bool := !(isNum m) || !(decide (0 ≤ numI m) && decide (numI m < (n : Int)))
noncomputable def rowV (t' : Bool) (clause : List Int) (pms : List MV) (t : Bool) (l : List MV) : MV := .tup [.str "resolve", seqV t' (ints' clause), .tup pms, seqV t l]
noncomputable def natI (pms : List MV) : List Nat := pms.map fun m => (numI m).toNat
noncomputable def faultS (nm : Nat) (cs : List (List Int)) (t' : Bool) (clause : List Int) (pms : List MV) (t : Bool) (l : List MV) : String :=
  if (t' && clauseS nm 0 clause) = false then "clause" else if pms.any (badP cs.length) then "premise" else resS cs clause (natI pms) t l
theorem any_filter {f : MV → Bool} {l : List MV} : (!(l.filter f).isEmpty) = l.any f := by
  rw [Bool.eq_iff_iff, List.any_eq_true]
  cases hf : l.filter f with
  | nil =>
    refine ⟨fun h => by simp at h, fun ⟨x, hx, e⟩ => ?_⟩
    have : x ∈ l.filter f := List.mem_filter.mpr ⟨hx, e⟩
    rw [hf] at this; cases this
  | cons y r =>
    refine ⟨fun _ => ?_, fun _ => rfl⟩
    have : y ∈ l.filter f := by rw [hf]; exact List.mem_cons_self
    exact ⟨y, (List.mem_filter.mp this).1, (List.mem_filter.mp this).2⟩
theorem nats_of {n : Nat} {pms : List MV} (h : pms.any (badP n) = false) : MV.tup pms = natsV (natI pms) ∧ ∀ k ∈ natI pms, k < n := by
  have hb : ∀ m ∈ pms, badP n m = false := fun m hm => by
    have := List.any_eq_false.mp h m hm
    simpa using this
  constructor
  · unfold natsV natI
    rw [List.map_map]
    congr 1
    have : ∀ m ∈ pms, m = ((fun (k : Nat) => MV.int (k : Int)) ∘ fun m => (numI m).toNat) m := fun m hm => by
      have h1 := hb m hm
      cases m <;> first | (simp [badP, isNum] at h1; done) | skip
      simp [badP, isNum, numI] at h1
      show MV.int _ = MV.int ((Int.toNat _ : Nat) : Int)
      simp only [numI]
      rw [Int.toNat_of_nonneg (of_decide_eq_true h1.1)]
    conv => lhs; rw [← List.map_id pms]
    exact List.map_congr_left this
  · intro k hk
    unfold natI at hk
    obtain ⟨m, hm, rfl⟩ := List.mem_map.mp hk
    have h1 := hb m hm
    cases m <;> first | (simp [badP, isNum] at h1; done) | skip
    simp [badP, isNum, numI] at h1
    have h2 := of_decide_eq_true h1.1
    have h3 := of_decide_eq_true h1.2
    simp only [numI]
    omega
section
variable {B : Bs} {A : Around} {δ : Ds}
set_option maxHeartbeats 4000000 in
theorem co_fault_of (G : Ok B) (hA : AOk 3 A) {nl : List MV} {cs : List (List Int)} {t' : Bool} {clause : List Int} {pms : List MV} {t : Bool} {l : List MV} (hcs : StepsOk cs) (hnl : nl.length < 64) (hcl : clause.length < 64) (hps : pms.length < 64) (hsp : ∀ m ∈ pms, Small m) (hl : l.length < 64) (hsm : ∀ m ∈ l, Small m) :
    Co B A (.ref 90) [.inst nl, stepsX cs [rowV t' clause pms t l], .int (cs.length : Int)] δ fun r δ' => r = .str (Str.ofString (faultS nl.length cs t' clause pms t l)) ∧ δ' = δ := by
  have hsx : (cs.map stepV ++ [rowV t' clause pms t l]).length ≤ sizeLine := by rw [List.length_append, List.length_map, sizeLine_eq]; have := hcs.1; simp; omega
  refine Co.fn0 (fn_fault_of G.hK) hA (by kernel_rfl) fun A' L qual code hA' O hC => ?_
  refine Ex.cons rfl ?_
  refine Ex.assign O (.inl (by kernel_rfl)) (Ev.sub ?_) rfl
  walk_at "ev"
  walk_at "ev"
  refine Sb.listI (k := cs.length) (m := rowV t' clause pms t l) hsx (by rw [List.getElem?_append_right (by rw [List.length_map]; exact Nat.le_refl _), List.length_map]; simp) ?_
  refine Ex.vars [("self", .inst nl), ("steps", stepsX cs [rowV t' clause pms t l]), ("number", .int (cs.length : Int)), ("step", .tup [.str "resolve", seqV t' (ints' clause), .tup pms, seqV t l])] (SubV.ofMap rfl) ?_
  refine Ex.cons rfl ?_
  refine Ex.ifq (Etq.or2 (b := false) (c := false) (Etq.not (b := true) ?_) fun _ => Etq.not (b := true) ?_) (fun hb => ?_) (fun _ => ?_)
  · refine Et.value ?_
    refine Ev.call O (by kernel_rfl) (g_is_tuple_of G) (fn_is_tuple_of G.hK).kp ?_
    walk_at "ev"; walk_at "ev"; walk_at "ev"; walk_at "ev"; walk_at "ev"
    exact Co.fnKeep (co_is_tuple_of (t := true) G (hA'.less (by omega)) (by simp [sizeLine_eq])) fun m e => ⟨_, e, rfl, rfl⟩
  · refine Et.value ?_
    refine Ev.call O (by kernel_rfl) (g_isinstance G) Kp.builtin ?_
    walk_at "ev"
    refine Ev.sub ?_
    walk_at "ev"
    walk_at "ev"
    refine Sb.tupI (k := 0) (by rw [sizeLine_eq]; simp) rfl ?_
    walk_at "ev"
    walk_at "ev"
    walk_at "ev"
    exact Co.quiet (isi_ss ⟨_, rfl, rfl, rfl⟩)
  · cases hb
  refine Ex.nil (Ex.cons rfl ?_)
  refine Ex.assignTup (xs := ["rule", "clause", "premises", "note"]) O hA'.hh rfl (fun x hx => ?_) ?_ rfl rfl
  · simp only [List.mem_cons, List.not_mem_nil, or_false] at hx
    rcases hx with rfl | rfl | rfl | rfl <;> exact .inl (by kernel_rfl)
  walk_at "ev"
  refine ⟨_, rfl, rfl, ?_⟩
  refine Ex.vars [("self", .inst nl), ("steps", stepsX cs [rowV t' clause pms t l]), ("number", .int (cs.length : Int)), ("rule", .str "resolve"), ("clause", seqV t' (ints' clause)), ("premises", .tup pms), ("note", seqV t l)] (SubV.ofMap rfl) ?_
  refine Ex.cons rfl ?_
  refine Ex.ifq (c := !(t' && clauseS nl.length 0 clause)) (Etq.not ?_) (fun hb => ?_) (fun hb => ?_)
  · refine Et.value ?_
    refine Ev.meth (fn_is_clause G.hK).kp ?_
    walk_at "ev"
    refine ⟨Gm.inst G (by kernel_rfl) (by kernel_rfl) (.inl rfl), ?_⟩
    walk_at "ev"; walk_at "ev"; walk_at "ev"
    exact Co.fnKeep (co_is_clause G (hA'.less (by omega)) hcl hnl) fun m e => ⟨_, e, rfl, rfl⟩
  · refine Ex.cons rfl (Ex.ret ?_)
    walk_at "ev"
    show MV.str _ = MV.str _
    unfold faultS
    rw [Bool.not_eq_true'] at hb
    rw [if_pos hb]
  have hcl1 : (t' && clauseS nl.length 0 clause) = true := by rwa [Bool.not_eq_false'] at hb
  have ht' : t' = true := by cases t' <;> simp_all
  subst ht'
  refine Ex.nil (Ex.cons rfl ?_)
  refine Ex.ifq (Etq.or2 (b := false) (c := pms.any (badP cs.length)) (Etq.not (b := true) ?_) fun _ => Etq.cmp ?_) (fun hb => ?_) (fun hb => ?_)
  · refine Et.value ?_
    refine Ev.call O (by kernel_rfl) (g_isinstance G) Kp.builtin ?_
    walk_at "ev"; walk_at "ev"; walk_at "ev"; walk_at "ev"; walk_at "ev"
    exact Co.quiet (isiTup (t := true) ⟨_, rfl, rfl, rfl⟩)
  · refine Ev.comp' O hA'.hh ?cb ?_
    (case cb => kernel_rfl)
    walk_at "ev"
    refine ⟨_, It.tup hA'.hh, fun items e => ?_⟩
    subst e
    refine ⟨lt64 hps, fun C OC => CpOk.filtM (badP cs.length) (fun m => m) _ [] (fun m hm => ?_) (fun m hm _ => ?_) ?_⟩
    · have hs := hsp m hm
      refine Etq.or2 (Etq.not (b := isNum m) ?_) fun hi => Etq.not (Etq.cmp2 ?_)
      · refine Et.value ?_
        refine Ev.call OC (by kernel_rfl) (g_is_number G) (fn_is_number G.hK).kp ?_
        walk_at "ev"; walk_at "ev"; walk_at "ev"
        exact Co.fnKeep (co_is_number G (hA'.less (by omega)) hs) fun m e => ⟨_, e, rfl, rfl⟩
      · have hi' : isNum m = true := (Bool.not_eq_false' _).mp hi
        cases hs <;> first | cases hi' | skip
        rename_i i
        walk_at "ev"
        walk_at "ev"
        refine (Cmp.leI ?_).d
        show if decide (0 ≤ i) = true then _ else _
        cases h1 : decide (0 ≤ i) with
        | false => exact ⟨rfl, by show false = (decide (0 ≤ i) && _); rw [h1]; rfl⟩
        | true =>
          rw [if_pos rfl]
          walk_at "ev"
          exact (Cmp.ltI ⟨rfl, by show decide (i < (cs.length : Int)) = (decide (0 ≤ i) && decide (i < (cs.length : Int))); rw [h1]; rfl⟩).d
    · walk_at "ev"
      exact ⟨rfl, rfl⟩
    rw [List.nil_append, List.map_id']
    walk_at "ev"
    walk_at "ev"
    refine ⟨by rw [sizeLine_eq]; simp, ?_⟩
    exact (Cmp.neNilL hA'.u (fun m hm => small_flat (hsp m (List.mem_filter.mp hm).1)) ⟨rfl, any_filter⟩).d
  · refine Ex.cons rfl (Ex.ret ?_)
    walk_at "ev"
    show MV.str _ = MV.str _
    unfold faultS
    rw [hcl1, if_neg (by simp), if_pos (by simpa using hb)]
  have hb' : pms.any (badP cs.length) = false := by simpa using hb
  obtain ⟨hpm, hpk⟩ := nats_of hb'
  refine Ex.nil (Ex.cons rfl ?_)
  refine Ex.ifq (c := true) (Etq.cmp ?_) (fun _ => ?_) (fun hb => by cases hb)
  · walk_at "ev"
    walk_at "ev"
    exact (Cmp.eqS ⟨rfl, rfl⟩).d
  refine Ex.cons rfl (Ex.ret ?_)
  refine Ev.meth (fn_resolve_fault G.hK).kp ?_
  walk_at "ev"
  refine ⟨Gm.inst G (by kernel_rfl) (by kernel_rfl) (.inr (.inl rfl)), ?_⟩
  walk_at "ev"; walk_at "ev"; walk_at "ev"; walk_at "ev"; walk_at "ev"; walk_at "ev"
  walk_at "ev"; walk_at "ev"; walk_at "ev"
  rw [hpm]
  refine Co.fnKeep (co_resolve_fault G hA' (ext := [rowV true clause pms t l]) hcs (by show 1 < 64; decide) hcl (by unfold natI; rw [List.length_map]; exact hps) hpk hl hsm) fun m e => ?_
  rw [e]
  show MV.str _ = MV.str _
  unfold faultS
  rw [hcl1, if_neg (by simp), hb', if_neg (by simp)]
end
end
end Mine

/- part RK -/
namespace Mine
noncomputable section
open PySem PySem.W PySem.Calls PyProof.Rows

local macro_rules | `(tactic| walk_at "ev") => `(tactic| first
  | with_reducible refine Ev.int ?_
  | with_reducible refine Ev.str ?_
  | with_reducible refine Ev.bool ?_
  | with_reducible refine Ev.none_ ?_
  | ((with_reducible refine' Ev.name (by assumption) ?evn ?_); (case evn => rfl))
  | ((with_reducible refine' Ev.globT (by assumption) (by kernel_rfl) ?evg ?_); (case evg => first | exact g_int (by assumption) | exact g_bool (by assumption) | exact g_str (by assumption) | exact g_tuple (by assumption)))
  | with_reducible refine Ev.bin ?_
  | with_reducible refine Ev.un ?_
  | with_reducible refine Ev.ifExp ?_
  | ((with_reducible refine Ev.cmp ?_ ?evm); (case evm => with_unfolding_all rfl))
  | with_reducible refine Ev.tuple ?_
  | with_reducible refine Ev.list ?_
  | with_reducible refine El.nil ?_
  | ((with_reducible refine El.cons ?_ ?elh); (case elh => rfl)))


noncomputable def hts (c : List Int) : List Int := c.map absI
noncomputable def hset (c : List Int) : List Nat := cn fun x => decide ((x : Int) ∈ hts c)
noncomputable def okH (many : Nat) (c : List Int) : Bool := decide (hts c = isort ((hset c).map fun (x : Nat) => (x : Int))) && (hts c).all fun h => decide (0 < h) && decide (h ≤ (many : Int))
noncomputable def stepWordS (many : Nat) (cs : List (List Int)) (clause : List Int) (pms : List MV) (t : Bool) (l : List MV) : String :=
  if okH many clause = false then "clause" else if pms.any (badP cs.length) then "premise" else wordS cs clause (natI pms) t l
theorem hts_nat (c : List Int) : hts c = (c.map Int.natAbs).map fun (n : Nat) => (n : Int) := by
  unfold hts
  rw [List.map_map]
  refine List.map_congr_left fun x _ => ?_
  show absI x = ((x.natAbs : Nat) : Int)
  unfold absI
  split <;> omega
theorem hset_mem {c : List Int} : ∀ x ∈ U5, x ∈ hset c ↔ x ∈ c.map Int.natAbs := fun x hx => by
  unfold hset
  rw [mem_cn, decide_eq_true_iff, hts_nat, List.mem_map]
  exact ⟨fun ⟨_, y, hy, e⟩ => (by have : y = x := by omega
                                  exact this ▸ hy), fun h => ⟨hx, x, h, rfl⟩⟩
theorem Cl.mono {B : Bs} {A : Around} {δ : Ds} {m : MV} {R R' : List MV → Prop} (h : Cl B A δ m R) (k : ∀ l, R l → R' l) : Cl B A δ m R' := fun X v r H => (h X v r H).mono fun _ _ _ ⟨i, hi, q⟩ => ⟨i, k i hi, q⟩
theorem filt_any {α : Type} {f : α → Bool} {l : List α} : (!(l.filter f).isEmpty) = l.any f := by
  rw [Bool.eq_iff_iff, List.any_eq_true]
  cases hf : l.filter f with
  | nil =>
    refine ⟨fun h => by simp at h, fun ⟨x, hx, e⟩ => ?_⟩
    have : x ∈ l.filter f := List.mem_filter.mpr ⟨hx, e⟩
    rw [hf] at this; cases this
  | cons y r =>
    refine ⟨fun _ => ?_, fun _ => rfl⟩
    have : y ∈ l.filter f := by rw [hf]; exact List.mem_cons_self
    exact ⟨y, (List.mem_filter.mp this).1, (List.mem_filter.mp this).2⟩
theorem any_not_all {α : Type} {f : α → Bool} : ∀ {l : List α}, (l.any fun x => !f x) = !(l.all f)
  | [] => rfl
  | x :: r => by simp [any_not_all (l := r)]
section
variable {B : Bs} {A : Around} {δ : Ds}
set_option maxHeartbeats 4000000 in
theorem co_law_step_word (G : Ok B) (hA : AOk 4 A) {cs : List (List Int)} {clause : List Int} {pms : List MV} {t : Bool} {l : List MV} {many : Nat} (hcs : StepsOk cs) (hco : LitOk clause) (hcl : clause.length < 64) (hps : pms.length < 64) (hsp : ∀ m ∈ pms, Small m) (hl : l.length < 64) (hsm : ∀ m ∈ l, Small m) :
    Co B A (.ref 221) [stepsV cs, .tup (ints' clause), .tup pms, seqV t l, .int (many : Int)] δ fun r δ' => r = .str (Str.ofString (stepWordS many cs clause pms t l)) ∧ δ' = δ := by
  refine Co.fn0 (fn_law_step_word G.hK) hA (by kernel_rfl) fun A' L qual code hA' O hC => ?_
  refine Ex.cons rfl ?_
  refine Ex.assignComp' O hA'.hh ?ca ?cw (.inl (by kernel_rfl)) ?_
  (case ca => kernel_rfl)
  (case cw => with_unfolding_all rfl)
  walk_at "ev"
  refine ⟨_, It.tup hA'.hh, fun items e => ?_⟩
  subst e
  refine ⟨sz64 hcl, fun C OC => CpOk.map_ (fun x => MV.int x) (fun x => MV.int (absI x)) clause [] (fun x hx => ?_) ?_⟩
  · refine Ev.call OC (by kernel_rfl) (g_abs G) Kp.builtin ?_
    walk_at "ev"; walk_at "ev"; walk_at "ev"
    exact Co.quiet (abs_int ⟨rfl, rfl⟩)
  have eh : [] ++ clause.map (fun x => MV.int (absI x)) = (hts clause).map .int := by
    unfold hts; rw [List.map_map]; rfl
  rw [eh]
  refine Ex.vars [("steps", stepsV cs), ("clause", .tup (ints' clause)), ("premises", .tup pms), ("note", seqV t l), ("many", .int (many : Int)), ("heights", .lst ((hts clause).map .int))] (SubV.ofMap rfl) ?_
  have hhl : (hts clause).length < 64 := by unfold hts; rw [List.length_map]; exact hcl
  refine Ex.cons rfl ?_
  refine Ex.ifq (Etq.or2 (b := !decide (hts clause = isort ((hset clause).map fun (x : Nat) => (x : Int)))) (c := (hts clause).any fun h => !(decide (0 < h) && decide (h ≤ (many : Int)))) (Etq.cmp ?_) fun _ => Etq.cmp ?_) (fun hb => ?_) (fun hb => ?_)
  · walk_at "ev"
    refine Ev.call O (by kernel_rfl) (g_sorted G) Kp.builtin ?_
    walk_at "ev"
    refine Ev.call O (by kernel_rfl) (g_set G) Kp.type ?_
    walk_at "ev"
    walk_at "ev"
    walk_at "ev"
    have es : (hts clause).map MV.int = (clause.map Int.natAbs).map fun (n : Nat) => MV.int (n : Int) := by rw [hts_nat, List.map_map]; rfl
    rw [es]
    refine Co.quiet (set_lst (lf := hset clause) hA'.hh (fun n hn => ?_) (cn_subs _) hset_mem ?_)
    · obtain ⟨y, hy, e⟩ := List.mem_map.mp hn
      rw [← e]; exact hco y hy
    walk_at "ev"
    refine sorted_of ((Cl.set (A := A'.in1) hA'.hh).mono fun items ⟨p, hp, e⟩ => ⟨p.map fun (n : Nat) => (n : Int), by rw [e, List.map_map]; rfl, ?_, ?_⟩)
    · rw [List.length_map, hp.length_eq]
      have := subs_len (hset clause) (cn_subs _)
      omega
    rw [isort_congr (hp.map _), ← es]
    exact (Cmp.neInts hA'.u ⟨rfl, rfl⟩).d
  · refine Ev.comp' O hA'.hh ?cb ?_
    (case cb => kernel_rfl)
    walk_at "ev"
    refine ⟨_, It.list hA'.hh, fun items e => ?_⟩
    subst e
    refine ⟨sz64 hhl, fun C OC => CpOk.filt (fun x => MV.int x) (fun h => !(decide (0 < h) && decide (h ≤ (many : Int)))) (fun x => MV.int x) (hts clause) [] (fun x hx => ?_) (fun x hx _ => ?_) ?_⟩
    · refine Etq.not (Etq.cmp2 ?_)
      walk_at "ev"
      walk_at "ev"
      refine (Cmp.ltI ?_).d
      show if decide (0 < x) = true then _ else _
      cases h1 : decide (0 < x) with
      | false => exact ⟨rfl, rfl⟩
      | true =>
        rw [if_pos rfl]
        walk_at "ev"
        exact (Cmp.leI ⟨rfl, rfl⟩).d
    · walk_at "ev"
      exact ⟨rfl, rfl⟩
    rw [List.nil_append]
    walk_at "ev"
    walk_at "ev"
    refine ⟨by rw [sizeLine_eq]; simp, ?_⟩
    refine (Cmp.neNilL hA'.u (fun m hm => flat_ints m hm) ⟨rfl, ?_⟩).d
    rw [List.isEmpty_map]
    exact filt_any
  · refine Ex.cons rfl (Ex.ret ?_)
    walk_at "ev"
    show MV.str _ = MV.str _
    unfold stepWordS okH
    rw [any_not_all, ← Bool.not_and, Bool.not_eq_true'] at hb
    rw [if_pos hb]
  rw [any_not_all, ← Bool.not_and, Bool.not_eq_false'] at hb
  have hok : okH many clause = true := hb
  refine Ex.nil (Ex.cons rfl ?_)
  refine Ex.ifq (c := pms.any (badP cs.length)) (Etq.cmp ?_) (fun hb => ?_) (fun hb => ?_)
  · refine Ev.comp' O hA'.hh ?cb ?_
    (case cb => kernel_rfl)
    walk_at "ev"
    refine ⟨_, It.tup hA'.hh, fun items e => ?_⟩
    subst e
    refine ⟨lt64 hps, fun C OC => CpOk.filtM (badP cs.length) (fun m => m) _ [] (fun m hm => ?_) (fun m hm _ => ?_) ?_⟩
    · have hs := hsp m hm
      refine Etq.or2 (Etq.not (b := isNum m) ?_) fun hi => Etq.not (Etq.cmp2 ?_)
      · refine Et.value ?_
        refine Ev.call OC (by kernel_rfl) (g_law_is_whole G) (fn_law_is_whole G.hK).kp ?_
        walk_at "ev"; walk_at "ev"; walk_at "ev"
        exact Co.fnKeep (co_law_is_whole G (hA'.less (by omega)) hs) fun m e => ⟨_, e, rfl, rfl⟩
      · have hi' : isNum m = true := (Bool.not_eq_false' _).mp hi
        cases hs <;> first | cases hi' | skip
        rename_i i
        walk_at "ev"
        walk_at "ev"
        refine (Cmp.leI ?_).d
        show if decide (0 ≤ i) = true then _ else _
        cases h1 : decide (0 ≤ i) with
        | false => exact ⟨rfl, by show false = (decide (0 ≤ i) && _); rw [h1]; rfl⟩
        | true =>
          rw [if_pos rfl]
          refine Ev.call OC (by kernel_rfl) (g_len G) Kp.builtin ?_
          walk_at "ev"; walk_at "ev"; walk_at "ev"
          refine Co.quiet (len_l (by rw [List.length_map]; exact lt64 hcs.1) ?_)
          refine (Cmp.ltI ⟨rfl, ?_⟩).d
          show decide (i < ((cs.map stepV).length : Int)) = (decide (0 ≤ i) && decide (i < (cs.length : Int)))
          rw [h1, List.length_map]; rfl
    · walk_at "ev"
      exact ⟨rfl, rfl⟩
    rw [List.nil_append, List.map_id']
    walk_at "ev"
    walk_at "ev"
    refine ⟨by rw [sizeLine_eq]; simp, ?_⟩
    exact (Cmp.neNilL hA'.u (fun m hm => small_flat (hsp m (List.mem_filter.mp hm).1)) ⟨rfl, any_filter⟩).d
  · refine Ex.cons rfl (Ex.ret ?_)
    walk_at "ev"
    show MV.str _ = MV.str _
    unfold stepWordS
    rw [hok, if_neg (by simp), if_pos hb]
  obtain ⟨hpm, hpk⟩ := nats_of hb
  refine Ex.nil (Ex.cons rfl (Ex.ret ?_))
  refine Ev.call O (by kernel_rfl) (g_law_word G) (fn_law_word G.hK).kp ?_
  walk_at "ev"; walk_at "ev"; walk_at "ev"; walk_at "ev"; walk_at "ev"; walk_at "ev"; walk_at "ev"; walk_at "ev"; walk_at "ev"
  rw [hpm]
  refine Co.fnKeep (co_law_word G hA' hcs hcl (by unfold natI; rw [List.length_map]; exact hps) hpk hl hsm) fun m e => ?_
  rw [e]
  show MV.str _ = MV.str _
  unfold stepWordS
  rw [hok, if_neg (by simp), hb, if_neg (by simp)]
end
end
end Mine

/- part RL -/
namespace Mine
noncomputable section
open PySem PySem.W PySem.Calls PyProof.Rows

local macro_rules | `(tactic| walk_at "ev") => `(tactic| first
  | with_reducible refine Ev.int ?_
  | with_reducible refine Ev.str ?_
  | with_reducible refine Ev.bool ?_
  | with_reducible refine Ev.none_ ?_
  | ((with_reducible refine' Ev.name (by assumption) ?evn ?_); (case evn => rfl))
  | ((with_reducible refine' Ev.globT (by assumption) (by kernel_rfl) ?evg ?_); (case evg => first | exact g_int (by assumption) | exact g_bool (by assumption) | exact g_str (by assumption) | exact g_tuple (by assumption)))
  | with_reducible refine Ev.bin ?_
  | with_reducible refine Ev.un ?_
  | with_reducible refine Ev.ifExp ?_
  | ((with_reducible refine Ev.cmp ?_ ?evm); (case evm => with_unfolding_all rfl))
  | with_reducible refine Ev.tuple ?_
  | with_reducible refine Ev.list ?_
  | with_reducible refine El.nil ?_
  | ((with_reducible refine El.cons ?_ ?elh); (case elh => rfl)))


section
variable {B : Bs} {A : Around} {P : MV → Prop}
theorem Bin.pow2k {k : Nat} (h0 : k ≠ 0) (hb : ¬ Builtin.Int.intTooBig (((Builtin.Int.intBits 2 : Nat) : Int) * (k : Int)) = true) (h : P (.int ((2 ^ k : Nat) : Int))) : Bin B A .Pow (.int 2) (.int (k : Int)) P := fun X u v ⟨t, e⟩ ⟨t', e'⟩ tk => by
  subst e e'
  refine AutoIntOps.pow_4 (by omega) (by simp; omega) (by decide) (by decide) hb ⟨X, tk + 1, rfl, Le.refl _ _, _, h, _, rfl⟩
theorem Bin.pow2 {k : Nat} (hk : k ≤ 4) (h : P (.int ((2 ^ k : Nat) : Int))) : Bin B A .Pow (.int 2) (.int (k : Int)) P := by
  by_cases h0 : k = 0
  · subst h0; exact Bin.pow0 h
  · refine Bin.pow2k h0 ?_ h
    have : k = 1 ∨ k = 2 ∨ k = 3 ∨ k = 4 := by omega
    rcases this with rfl | rfl | rfl | rfl <;> decide +kernel
end
noncomputable def bitW (n k : Nat) : Int := if ((n : Int).fdiv ((2 ^ k : Nat) : Int)).fmod 2 == 1 then 1 else -1
noncomputable def worldW (n many : Nat) : List Int := [0] ++ (List.range many).map (bitW n)
noncomputable def satB (w : List Int) (x : Int) : Bool := decide (0 < w.getD x.natAbs 0 * x)
noncomputable def satW (w : List Int) (c : List Int) : List Int := c.filter (satB w)
noncomputable def followS (cs : List (List Int)) (clause : List Int) (ps : List Nat) (w : List Int) : Bool := !((!(ps.any fun k => (satW w (cs.getD k [])).isEmpty)) && (satW w clause).isEmpty)
noncomputable def followsS (cs : List (List Int)) (clause : List Int) (ps : List Nat) (many : Nat) : Bool := (List.range (2 ^ many)).all fun n => followS cs clause ps (worldW n many)
theorem worldW_len {n many : Nat} : (worldW n many).length = many + 1 := by unfold worldW; simp
theorem world_le (n many i : Nat) : ((worldW n many).getD i 0).natAbs ≤ 1 := by
  rw [List.getD_eq_getElem?_getD]
  cases h : (worldW n many)[i]? with
  | none => decide
  | some v =>
    have hv := List.mem_of_getElem? h
    unfold worldW at hv
    rw [List.mem_append, List.mem_map] at hv
    rcases hv with hv | ⟨k, _, rfl⟩
    · rw [List.mem_singleton] at hv; subst hv; decide
    · show (bitW n k).natAbs ≤ 1
      unfold bitW; split <;> decide
theorem world_mul (n many i : Nat) (x : Int) : IntMulOk ((worldW n many).getD i 0) x := by
  have := world_le n many i
  have h : (worldW n many).getD i 0 = 1 ∨ (worldW n many).getD i 0 = 0 ∨ (worldW n many).getD i 0 = -1 := by omega
  rcases h with h | h | h <;> rw [h] <;> exact IntMulOk.of_left (by decide)
theorem absI_nat (x : Int) : absI x = ((x.natAbs : Nat) : Int) := by unfold absI; split <;> omega
theorem world_at {n many : Nat} {x : Int} (h : x.natAbs ≤ many) : ((worldW n many).map MV.int)[x.natAbs]? = some (.int ((worldW n many).getD x.natAbs 0)) := by
  have : x.natAbs < (worldW n many).length := by rw [worldW_len]; omega
  rw [List.getElem?_map, List.getD_eq_getElem?_getD, List.getElem?_eq_getElem this]; rfl
theorem rng0 {n : Nat} : (List.range n).map (fun (k : Nat) => MV.int (0 + (k : Int))) = (List.range n).map fun (k : Nat) => MV.int (k : Int) := List.map_congr_left fun k _ => by rw [Int.zero_add]
section
variable {B : Bs} {A : Around} {δ : Ds}
noncomputable abbrev FwV (cs : List (List Int)) (clause : List Int) (ps : List Nat) (many : Nat) : Vs := [("steps", stepsV cs), ("clause", .tup (ints' clause)), ("premises", natsV ps), ("many", .int (many : Int))]
noncomputable abbrev FwJ (cs : List (List Int)) (clause : List Int) (ps : List Nat) (many : Nat) (r : List Nat) (ρ : Vs) (δ' : Ds) : Prop := δ' = [] ∧ SubV (FwV cs clause ps many) ρ ∧ followsS cs clause ps many = r.all fun n => followS cs clause ps (worldW n many)
set_option maxHeartbeats 4000000 in
theorem co_law_follows (G : Ok B) (hA : AOk 2 A) {cs : List (List Int)} {clause : List Int} {ps : List Nat} {many : Nat} (hm : many ≤ 4) (hcs : StepsOk cs) (hcm : ∀ c ∈ cs, ∀ x ∈ c, x.natAbs ≤ many) (hcl : clause.length < 64) (hclm : ∀ x ∈ clause, x.natAbs ≤ many) (hps : ps.length < 64) (hpk : ∀ k ∈ ps, k < cs.length) :
    Co B A (.ref 226) [stepsV cs, .tup (ints' clause), natsV ps, .int (many : Int)] δ fun r δ' => r = .bool (followsS cs clause ps many) ∧ δ' = δ := by
  have hp2 : 2 ^ many ≤ 16 := by
    have : 2 ^ many ≤ 2 ^ 4 := Nat.pow_le_pow_right (by decide) hm
    omega
  have hp0 : (0 : Int) ≤ ((2 ^ many : Nat) : Int) := Int.natCast_nonneg _
  have hp3 : ((2 ^ many : Nat) : Int) ≤ 16 := Int.ofNat_le.mpr hp2
  have hp24 : (2 : Int) ^ 24 = 16777216 := by decide
  refine Co.fn0 (fn_law_follows G.hK) hA (by kernel_rfl) fun A' L qual code hA' O hC => ?_
  refine Ex.cons rfl ?_
  refine Ex.for_ (x := "number") O hA'.hh (.inr ⟨by kernel_rfl, _, rfl⟩) ?_
  refine Ev.call O (by kernel_rfl) (g_range G) Kp.type ?_
  walk_at "ev"
  walk_at "ev"
  walk_at "ev"
  walk_at "ev"
  refine Bin.pow2 hm ?_
  walk_at "ev"
  refine Co.quiet (range1 ?_)
  refine ⟨_, It.rng hA'.hh (by omega) (by omega) (by rw [hp24]; omega), fun items e => ?_⟩
  subst e
  rw [Int.sub_zero, Int.toNat_natCast, rng0]
  refine ForOk.run (fun (n : Nat) => MV.int (n : Int)) (FwJ cs clause ps many) ?_ ?_ _ _ _ ⟨rfl, (SubV.ofMap rfl), rfl⟩
  · rintro n r ρ δ' ⟨rfl, hV, hS⟩
    refine Ex.vars _ (SubV.set1 hV (by kernel_rfl)) ?_
    refine Ex.cons rfl ?_
    refine Ex.assign O (.inr ⟨by kernel_rfl, _, rfl⟩) ?_ rfl
    walk_at "ev"
    walk_at "ev"
    walk_at "ev"
    walk_at "ev"
    walk_at "ev"
    refine ⟨by rw [sizeLine_eq]; simp, ?_⟩
    refine Ev.comp' O hA'.hh ?cb ?_
    (case cb => kernel_rfl)
    refine Ev.call O (by kernel_rfl) (g_range G) Kp.type ?_
    walk_at "ev"
    walk_at "ev"
    walk_at "ev"
    refine Co.quiet (range1 ?_)
    refine ⟨_, It.rng hA'.hh (by omega) (by omega) (by rw [hp24]; omega), fun items e => ?_⟩
    subst e
    rw [Int.sub_zero, Int.toNat_natCast, rng0]
    refine ⟨by rw [sizeLine_eq]; simp; omega, fun C OC => CpOk.map_ (fun (k : Nat) => MV.int (k : Int)) (fun k => MV.int (bitW n k)) (List.range many) [] (fun k hk => ?_) ?_⟩
    · have hk4 : k ≤ 4 := by have := List.mem_range.mp hk; omega
      refine Ev.ifq (c := ((n : Int).fdiv ((2 ^ k : Nat) : Int)).fmod 2 == 1) (Etq.cmp ?_) (fun hb => ?_) (fun hb => ?_)
      · walk_at "ev"
        walk_at "ev"
        walk_at "ev"
        walk_at "ev"
        walk_at "ev"
        walk_at "ev"
        refine Bin.pow2 hk4 ?_
        have h16 : 2 ^ k ≤ 2 ^ 4 := Nat.pow_le_pow_right (by decide) hk4
        have h0 : 0 < 2 ^ k := Nat.pow_pos (by decide)
        refine Bin.divI (by omega) (by omega) ?_
        walk_at "ev"
        refine Bin.modI (by decide) ?_
        walk_at "ev"
        exact (Cmp.eqI ⟨rfl, rfl⟩).d
      · walk_at "ev"
        refine ⟨rfl, ?_⟩
        unfold bitW
        rw [hb]; rfl
      · walk_at "ev"
        walk_at "ev"
        refine Un.neg ⟨rfl, ?_⟩
        unfold bitW
        rw [hb]; rfl
    refine Bin.addL (by rw [sizeLine_eq]; simp; omega) ?_
    have ew : [MV.int 0] ++ ([] ++ (List.range many).map fun k => MV.int (bitW n k)) = (worldW n many).map .int := by
      unfold worldW
      rw [List.nil_append, List.map_append, List.map_map]; rfl
    rw [ew]
    have hwl : ((worldW n many).map MV.int).length ≤ sizeLine := by rw [List.length_map, worldW_len, sizeLine_eq]; omega
    refine Ex.vars (("world", .lst ((worldW n many).map .int)) :: FwV cs clause ps many) (SubV.ofMap rfl) ?_
    refine Ex.cons rfl ?_
    refine Ex.assignComp' O hA'.hh ?ca ?cw (.inl (by kernel_rfl)) ?_
    (case ca => kernel_rfl)
    (case cw => with_unfolding_all rfl)
    walk_at "ev"
    refine ⟨_, It.tup hA'.hh, fun items e => ?_⟩
    subst e
    refine ⟨by rw [List.length_map]; exact lt64 hps, fun C OC => CpOk.map_ (fun (k : Nat) => MV.int (k : Int)) (fun k => MV.lst (ints' (satW (worldW n many) (cs.getD k [])))) ps [] (fun k hk => ?_) ?_⟩
    · have hkl := hpk k hk
      have hck := hcs.at_ hkl
      have hckm : ∀ x ∈ cs.getD k [], x.natAbs ≤ many := by
        rw [List.getD_eq_getElem?_getD, List.getElem?_eq_getElem hkl]
        exact hcm _ (List.getElem_mem hkl)
      refine Ev.comp' OC hA'.hh ?cc ?_
      (case cc => kernel_rfl)
      refine Ev.sub ?_
      refine Ev.sub ?_
      walk_at "ev"
      walk_at "ev"
      refine Sb.listI (k := k) (by rw [List.length_map]; exact lt64 hcs.1) (stepsV_get hkl) ?_
      walk_at "ev"
      refine Sb.tupI (k := 1) (by rw [sizeLine_eq]; simp) rfl ?_
      refine ⟨_, It.tup hA'.hh, fun items e => ?_⟩
      subst e
      refine ⟨sz64 hck.2, fun C2 OC2 => CpOk.filt (fun x => MV.int x) (satB (worldW n many)) (fun x => MV.int x) (cs.getD k []) [] (fun x hx => ?_) (fun x hx _ => ?_) ?_⟩
      · refine Etq.cmp ?_
        walk_at "ev"
        refine Ev.sub ?_
        walk_at "ev"
        refine Ev.call OC2 (by kernel_rfl) (g_abs G) Kp.builtin ?_
        walk_at "ev"; walk_at "ev"; walk_at "ev"
        refine Co.quiet (abs_int ?_)
        show Sb _ _ _ _ (.int (absI x)) _
        rw [absI_nat]
        refine Sb.listI hwl (world_at (hckm x hx)) ?_
        walk_at "ev"
        refine Bin.mulI ?_ (world_mul _ _ _ _)
        walk_at "ev"
        exact (Cmp.gtI ⟨rfl, rfl⟩).d
      · walk_at "ev"
        exact ⟨rfl, rfl⟩
      exact ⟨rfl, rfl⟩
    have er : [] ++ ps.map (fun k => MV.lst (ints' (satW (worldW n many) (cs.getD k [])))) = (ps.map fun k => ints' (satW (worldW n many) (cs.getD k []))).map MV.lst := by rw [List.map_map]; rfl
    rw [er]
    refine Ex.vars (("rows", .lst ((ps.map fun k => ints' (satW (worldW n many) (cs.getD k []))).map MV.lst)) :: ("world", .lst ((worldW n many).map .int)) :: FwV cs clause ps many) (SubV.ofMap rfl) ?_
    refine Ex.cons rfl ?_
    refine Ex.ifq (Etq.and2 (b := !(ps.any fun k => (satW (worldW n many) (cs.getD k [])).isEmpty)) (c := (satW (worldW n many) clause).isEmpty) (Etq.cmp ?_) fun _ => Etq.cmp ?_) (fun hb => ?_) (fun hb => ?_)
    · walk_at "ev"
      walk_at "ev"
      refine ⟨by rw [sizeLine_eq]; simp, ?_⟩
      walk_at "ev"
      refine (Cmp.notInNil (by have := hA'.hu; show A'.units + 1 < cLine; omega) ⟨rfl, ?_⟩).d
      rw [List.any_map]
      congr 1
      refine List.any_congr rfl fun k => ?_
      show (ints' _).isEmpty = _
      rw [List.isEmpty_map]
    · refine Ev.comp' O hA'.hh ?cd ?_
      (case cd => kernel_rfl)
      walk_at "ev"
      refine ⟨_, It.tup hA'.hh, fun items e => ?_⟩
      subst e
      refine ⟨sz64 hcl, fun C2 OC2 => CpOk.filt (fun x => MV.int x) (satB (worldW n many)) (fun x => MV.int x) clause [] (fun x hx => ?_) (fun x hx _ => ?_) ?_⟩
      · refine Etq.cmp ?_
        walk_at "ev"
        refine Ev.sub ?_
        walk_at "ev"
        refine Ev.call OC2 (by kernel_rfl) (g_abs G) Kp.builtin ?_
        walk_at "ev"; walk_at "ev"; walk_at "ev"
        refine Co.quiet (abs_int ?_)
        show Sb _ _ _ _ (.int (absI x)) _
        rw [absI_nat]
        refine Sb.listI hwl (world_at (hclm x hx)) ?_
        walk_at "ev"
        refine Bin.mulI ?_ (world_mul _ _ _ _)
        walk_at "ev"
        exact (Cmp.gtI ⟨rfl, rfl⟩).d
      · walk_at "ev"
        exact ⟨rfl, rfl⟩
      walk_at "ev"
      walk_at "ev"
      refine ⟨by rw [sizeLine_eq]; simp, ?_⟩
      rw [List.nil_append]
      refine (Cmp.eqNilL hA'.u (fun m hm => flat_ints m hm) ⟨rfl, ?_⟩).d
      rw [List.isEmpty_map]; rfl
    · refine Ex.cons rfl (Ex.ret ?_)
      walk_at "ev"
      show MV.bool false = MV.bool _
      rw [hS, List.all_cons]
      have : followS cs clause ps (worldW n many) = false := by unfold followS; rw [hb]; rfl
      rw [this]; rfl
    · refine Ex.nil (Ex.nil ⟨rfl, (SubV.ofMap rfl), ?_⟩)
      rw [hS, List.all_cons]
      have : followS cs clause ps (worldW n many) = true := by unfold followS; rw [hb]; rfl
      rw [this]; rfl
  · rintro ρ δ' ⟨rfl, hV, hS⟩
    refine Ex.cons rfl (Ex.ret ?_)
    walk_at "ev"
    show MV.bool true = MV.bool _
    rw [hS]; rfl
end
end
end Mine

/- part RM -/
namespace Mine
noncomputable section
open PySem PySem.W PySem.Calls PyProof.Rows

local macro_rules | `(tactic| walk_at "ev") => `(tactic| first
  | with_reducible refine Ev.int ?_
  | with_reducible refine Ev.str ?_
  | with_reducible refine Ev.bool ?_
  | with_reducible refine Ev.none_ ?_
  | ((with_reducible refine' Ev.name (by assumption) ?evn ?_); (case evn => rfl))
  | ((with_reducible refine' Ev.globT (by assumption) (by kernel_rfl) ?evg ?_); (case evg => first | exact g_int (by assumption) | exact g_bool (by assumption) | exact g_str (by assumption) | exact g_tuple (by assumption)))
  | with_reducible refine Ev.bin ?_
  | with_reducible refine Ev.un ?_
  | with_reducible refine Ev.ifExp ?_
  | ((with_reducible refine Ev.cmp ?_ ?evm); (case evm => with_unfolding_all rfl))
  | with_reducible refine Ev.tuple ?_
  | with_reducible refine Ev.list ?_
  | with_reducible refine El.nil ?_
  | ((with_reducible refine El.cons ?_ ?elh); (case elh => rfl)))


section
variable {B : Bs} {A : Around} {env : Env} {ρ : Vs} {δ : Ds} {n : Nat} {a : Addr} {cells : List Int}
theorem Ev.methD {o : Expr} {name : Str} {id : String} {apos pos : Pos} {args : List Expr} {pl : Sem Bool} {Q : MV → Ds → Prop} (slot : Slot "dict" name id) (hty : typeOf (.builtin id) = pure (.type "method_descriptor")) 
    (h : Ev B A env (eval o env) ρ δ fun m δ₁ => ∃ b dn, m = .dict b ∧ (b, dn) ∈ δ₁ ∧ El B A env (spliced (backTo pos (starEach args env))) ρ δ₁ fun ms δ' => Co B A (.builtin id) (m :: ms) δ' Q)
    (he : eval (.Call (.Attribute o name apos) args [] pos) env = (do
      let ov ← eval o env
      standAt apos.atName
      let (f, first) ← holding [ov] (getMethod ov name pl)
      callWith pos f first (backTo pos (starEach args env)) (backToKw pos (keywordEach [] env))) := by rfl)
    (hn : (backTo pos (starEach args env)).all (fun x => !x.1) = true := by rfl) :
    Ev B A env (eval (.Call (.Attribute o name apos) args [] pos) env) ρ δ Q := fun X I tk => by
  refine PySem.W.methodCall_KW (pl := pl) ((h X I).into fun u W tk₀ l₀ ⟨m, δ₀, ⟨b, dn, em, hm, h⟩, ru, I₀, n₀⟩ => ?_) he
  subst em
  have eu : u = .ref b := ru
  subst eu
  refine gm_dict hm I₀.dicts slot hty ?_
  have hn' : ((backTo pos (starEach args env)).any (·.1) || ([] : List (Option Str × Sem Value)).any (·.1.isNone)) = false := by
    rw [List.any_nil, Bool.or_false, Bool.eq_false_iff]
    intro q
    obtain ⟨x, hx, e⟩ := List.any_eq_true.mp q
    have := List.all_eq_true.mp hn x hx
    rw [e] at this; cases this
  refine callWith_of (P := fun h => ∀ a o, B.hb.get? a = some o → h.get? a = some o) hn' (Kp.builtin _) (evalArgs_any hn ((h W I₀).into fun vs Y tk₁ l₁ ⟨ms, δ₁, hc, rl, I₁, n₁⟩ => ?_))
  exact ⟨Y.keepsB, (hc Y (.ref b :: vs) ⟨.ref b, vs, rfl, l₁.repV ru, rl⟩ I₁.dicts).into fun v Z tk₂ l₂ ⟨m, δ₂, q, e, rv, H⟩ =>
    ⟨Z, _, rfl, (l₀.trans l₁ n₀).trans l₂ (n₀.trans l₀ n₁), m, δ₂, q, rv, I₁.next l₂ (fun _ h => h) H (NewDom.of_eq e), (n₀.trans l₀ n₁).trans (l₀.trans l₁ n₀) (NewDom.of_eq e)⟩⟩
theorem Sb.dictI {l : List (Int × MV)} {m : MV} {i : Int} {P : MV → Prop} (hm : (a, DC.ints l) ∈ δ) (hx : atM l i = some m) (h : P m) : Sb B A δ (.dict a) (.int i) P := fun X u v e ⟨t, e'⟩ H => by
  subst e'; cases e
  obtain ⟨⟨kvs, hD, hr⟩, _, hsys⟩ := H.at_ _ hm
  obtain ⟨w, hw, rw'⟩ := hr.some_ hx
  exact ⟨⟨"dict", _, fun tk => hD.typeIs, slot_dict_getitem.lookup⟩, fun tk =>
    wpAny_getItem_of (knd := intKind PG B.w) (k := i) (by simp [intKind, Value.isInt]) hD.mapOf hw ⟨X, tk + 1, rfl, Le.refl _ _, m, h, rw'⟩⟩
theorem next_fr (G : Ok B) (hA : AOk 1 A) {s w : Nat} (hs : s ≤ 10000) (hc : cells.length < 64) (hw : 0 < w) {δr : Ds} {Q : MV → Ds → Prop} (h : ∀ k : Nat, k < w → Q (.int (k : Int)) (feedD a cells (s + 1) ++ δr)) :
    Co B A (.ref 187) [.dict a, .int (w : Int)] (feedD a cells s ++ δr) Q := Co.frame ((co_law_next G hA hs hc hw).mono fun m δ' _ ⟨⟨k, hk, e⟩, e'⟩ => by subst e e'; exact h k hk)
theorem next_0 (G : Ok B) (hA : AOk 1 A) {s w : Nat} (hs : s ≤ 10000) (hc : cells.length < 64) (hw : 0 < w) {Q : MV → Ds → Prop} (h : ∀ k : Nat, k < w → Q (.int (k : Int)) (feedD a cells (s + 1))) :
    Co B A (.ref 187) [.dict a, .int (w : Int)] (feedD a cells s) Q := (co_law_next G hA hs hc hw).mono fun m δ' _ ⟨⟨k, hk, e⟩, e'⟩ => by subst e e'; exact h k hk
end
/-- the ways of a clause -/
noncomputable def wayM (l : List (Int × Int)) : List (Int × MV) := l.map fun p => (p.1, MV.int p.2)
noncomputable def wayAt (l : List (Int × Int)) (i : Int) : Option Int := (l.find? fun p => decide (p.1 = i)).map (·.2)
theorem atM_way (l : List (Int × Int)) (i : Int) : atM (wayM l) i = (wayAt l i).map .int := by
  unfold atM wayM wayAt
  rw [List.find?_map]
  rw [Option.map_map, Option.map_map]; rfl
noncomputable def WOk (many : Nat) (l : List (Int × Int)) : Prop := (l.map (·.1)).Nodup ∧ ∀ p ∈ l, 1 ≤ p.1 ∧ p.1 ≤ many ∧ (p.2 = 1 ∨ p.2 = -1)
noncomputable def wayPut (l : List (Int × Int)) (i v : Int) : List (Int × Int) := if i ∈ l.map (·.1) then l.map (fun p => if p.1 = i then (p.1, v) else p) else l ++ [(i, v)]
theorem wayPut_is (l : List (Int × Int)) (i v : Int) : storedM (wayM l) i (.int v) = wayM (wayPut l i v) := by
  unfold storedM wayPut
  have e : ((wayM l).any fun kv => decide (kv.1 = i)) = decide (i ∈ l.map (·.1)) := by
    unfold wayM
    rw [List.any_map, Bool.eq_iff_iff, List.any_eq_true, decide_eq_true_iff, List.mem_map]
    exact ⟨fun ⟨y, hy, e⟩ => ⟨y, hy, of_decide_eq_true e⟩, fun ⟨y, hy, e⟩ => ⟨y, hy, decide_eq_true e⟩⟩
  rw [e]
  by_cases h : i ∈ l.map (·.1)
  · rw [if_pos h, if_pos (decide_eq_true h)]
    unfold wayM
    rw [List.map_map, List.map_map]
    refine List.map_congr_left fun y hy => ?_
    show (if y.1 = i then (y.1, MV.int v) else (y.1, MV.int y.2)) = ((if y.1 = i then (y.1, v) else y).1, MV.int (if y.1 = i then (y.1, v) else y).2)
    split <;> rfl
  · rw [if_neg h, if_neg (by rw [decide_eq_true_iff]; exact h)]
    unfold wayM
    rw [List.map_append]; rfl
theorem WOk.put {many : Nat} {l : List (Int × Int)} {i v : Int} (h : WOk many l) (hi : 1 ≤ i ∧ i ≤ many) (hv : v = 1 ∨ v = -1) : WOk many (wayPut l i v) := by
  unfold wayPut
  split
  · refine ⟨?_, fun p hp => ?_⟩
    · have : (l.map fun p => if p.1 = i then (p.1, v) else p).map (·.1) = l.map (·.1) := by
        rw [List.map_map]
        refine List.map_congr_left fun y hy => ?_
        show (if y.1 = i then (y.1, v) else y).1 = y.1
        split <;> rfl
      rw [this]; exact h.1
    · obtain ⟨y, hy, rfl⟩ := List.mem_map.mp hp
      have := h.2 y hy
      split
      · exact ⟨this.1, this.2.1, hv⟩
      · exact this
  · rename_i hn
    refine ⟨?_, fun p hp => ?_⟩
    · rw [List.map_append, List.nodup_append]
      refine ⟨h.1, by simp, fun a ha b hb e => ?_⟩
      rw [List.map_cons, List.map_nil, List.mem_singleton] at hb
      subst hb e
      exact hn ha
    · rcases List.mem_append.mp hp with hp | hp
      · exact h.2 p hp
      · rw [List.mem_singleton] at hp; subst hp
        exact ⟨hi.1, hi.2, hv⟩
theorem wayPut_len (l : List (Int × Int)) (i v : Int) : (wayPut l i v).length ≤ l.length + 1 := by
  unfold wayPut; split
  · rw [List.length_map]; omega
  · rw [List.length_append]; simp
theorem WOk.at_ {many : Nat} {l : List (Int × Int)} {i : Int} (h : WOk many l) : (∃ v, wayAt l i = some v ∧ (v = 1 ∨ v = -1)) ∨ wayAt l i = none := by
  unfold wayAt
  cases hf : l.find? fun p => decide (p.1 = i) with
  | none => exact .inr rfl
  | some p => exact .inl ⟨p.2, rfl, (h.2 p (List.mem_of_find?_eq_some hf)).2.2⟩
theorem WOk.in_ {many : Nat} {l : List (Int × Int)} {i : Int} (h : WOk many l) (hi : i ∈ l.map (·.1)) : ∃ v, wayAt l i = some v ∧ (v = 1 ∨ v = -1) := by
  rcases h.at_ (i := i) with q | q
  · exact q
  · obtain ⟨p, hp, e⟩ := List.mem_map.mp hi
    unfold wayAt at q
    rw [Option.map_eq_none_iff, List.find?_eq_none] at q
    exact absurd (decide_eq_true e) (q p hp)
noncomputable def ClauseOk (many : Nat) (c : List Int) : Prop := (c.map Int.natAbs).Pairwise (· < ·) ∧ ∀ x ∈ c, 1 ≤ x.natAbs ∧ x.natAbs ≤ many
noncomputable def wayC (l : List (Int × Int)) : List Int := (isort (l.map (·.1))).map fun k => (wayAt l k).getD 0 * k
theorem wayC_ok {many : Nat} {l : List (Int × Int)} (h : WOk many l) : ClauseOk many (wayC l) := by
  have hp := isort_perm (l.map (·.1))
  have key : ∀ k ∈ isort (l.map (·.1)), ((wayAt l k).getD 0 * k).natAbs = k.natAbs ∧ 1 ≤ k ∧ k ≤ many := fun k hk => by
    have hk' := hp.mem_iff.mp hk
    obtain ⟨p, hp', e⟩ := List.mem_map.mp hk'
    have := h.2 p hp'
    obtain ⟨v, hv, hv'⟩ := h.in_ hk'
    rw [hv]
    refine ⟨?_, e ▸ this.1, e ▸ this.2.1⟩
    rcases hv' with rfl | rfl <;> simp
  have hlt : (isort (l.map (·.1))).Pairwise (· < ·) := by
    have hn : (isort (l.map (·.1))).Pairwise (fun a b => a ≠ b) := hp.nodup_iff.mpr h.1
    exact List.Pairwise.imp (R := fun a b => a ≤ b ∧ a ≠ b) (fun {a b} h => by have h1 := h.1; have h2 := h.2; omega) ((isort_sorted (l.map (·.1))).and hn)
  constructor
  · unfold wayC
    rw [List.map_map, List.pairwise_map]
    refine hlt.imp_of_mem fun {a b} ha hb hab => ?_
    show ((wayAt l a).getD 0 * a).natAbs < ((wayAt l b).getD 0 * b).natAbs
    have h1 := key a ha
    have h2 := key b hb
    omega
  · intro x hx
    unfold wayC at hx
    obtain ⟨k, hk, rfl⟩ := List.mem_map.mp hx
    have h1 := key k hk
    omega
theorem wayC_len (l : List (Int × Int)) : (wayC l).length = l.length := by
  unfold wayC
  rw [List.length_map, (isort_perm _).length_eq, List.length_map]
section
variable {B : Bs} {A : Around} {δ : Ds} {a : Addr} {cells : List Int}
noncomputable abbrev ClQ (a : Addr) (cells : List Int) (s many : Nat) : MV → Ds → Prop := fun r δ' => ∃ c s', r = .tup (ints' c) ∧ δ' = feedD a cells s' ∧ s' ≤ s + 4 ∧ ClauseOk many c ∧ c.length ≤ 3
noncomputable abbrev ClV (a w : Addr) (many : Nat) : Vs := [("feed", .dict a), ("many", .int (many : Int)), ("ways", .dict w)]
noncomputable abbrev ClJ (a w : Addr) (cells : List Int) (s many : Nat) (r : List Nat) (ρ : Vs) (δ' : Ds) : Prop := ∃ l s', δ' = feedD a cells s' ++ [(w, .ints (wayM l))] ∧ SubV (ClV a w many) ρ ∧ WOk many l ∧ s' + r.length ≤ s + 4 ∧ l.length + r.length ≤ 3
set_option maxHeartbeats 4000000 in
theorem co_law_clause (G : Ok B) (hA : AOk 2 A) {s many : Nat} (hs : s ≤ 1000) (hc : cells.length < 64) (hm : 2 ≤ many ∧ many ≤ 4) :
    Co B A (.ref 192) [.dict a, .int (many : Int)] (feedD a cells s) (ClQ a cells s many) := by
  refine Co.fn (fn_law_clause G.hK) hA (by kernel_rfl) fun A' L qual code hA' O hC => ?_
  refine Ex.cons rfl ?_
  refine Ex.assign O (.inr ⟨by kernel_rfl, _, rfl⟩) (Ev.dict0 fun w => ?_) rfl
  refine Ex.vars (ClV a w many) (SubV.ofMap rfl) ?_
  refine Ex.cons rfl ?_
  refine Ex.for_ (x := "lap") O hA'.hh (.inl (by kernel_rfl)) ?_
  refine Ev.call O (by kernel_rfl) (g_range G) Kp.type ?_
  walk_at "ev"
  walk_at "ev"
  walk_at "ev"
  refine Ev.call O (by kernel_rfl) (g_law_next G) (fn_law_next G.hK).kp ?_
  walk_at "ev"; walk_at "ev"; walk_at "ev"; walk_at "ev"; walk_at "ev"
  refine next_fr (w := 3) G hA' (by omega) hc (by decide) fun n hn => ?_
  refine Bin.addI ?_
  walk_at "ev"
  refine Co.quiet (range1 ?_)
  have hp24 : (2 : Int) ^ 24 = 16777216 := by decide
  refine ⟨_, It.rng hA'.hh (by omega) (by omega) (by rw [hp24]; omega), fun items e => ?_⟩
  subst e
  rw [rng0]
  refine ForOk.run (fun (n : Nat) => MV.int (n : Int)) (ClJ a w cells s many) ?_ ?_ _ _ _ ⟨[], s + 1, rfl, (SubV.ofMap rfl), ⟨.nil, fun _ h => nomatch h⟩, by rw [List.length_range]; omega, by rw [List.length_range]; simp; omega⟩
  · rintro lap r ρ δ' ⟨l, s', rfl, hV, hW, hs', hl⟩
    rw [List.length_cons] at hs' hl
    refine Ex.vars _ (SubV.set1 hV (by kernel_rfl)) ?_
    refine Ex.cons rfl ?_
    refine Ex.assign O (.inl (by kernel_rfl)) ?_ rfl
    refine Ev.call O (by kernel_rfl) (g_law_next G) (fn_law_next G.hK).kp ?_
    walk_at "ev"; walk_at "ev"; walk_at "ev"; walk_at "ev"; walk_at "ev"; walk_at "ev"
    refine Bin.mulI ?_ (mul_ok (by omega) (by omega))
    walk_at "ev"
    have em : (2 : Int) * (many : Int) = ((2 * many : Nat) : Int) := by push_cast; rfl
    rw [em]
    refine next_fr G hA' (by omega) hc (by omega) fun k hk => ?_
    refine Ex.vars (("code", .int (k : Int)) :: ClV a w many) (SubV.ofMap rfl) ?_
    have hkey : 1 ≤ (k : Int).fdiv 2 + 1 ∧ (k : Int).fdiv 2 + 1 ≤ many := by
      rw [Int.fdiv_eq_ediv_of_nonneg _ (by decide)]; omega
    have hval : (1 : Int) - 2 * (k : Int).fmod 2 = 1 ∨ (1 : Int) - 2 * (k : Int).fmod 2 = -1 := by
      rw [Int.fmod_eq_emod_of_nonneg _ (by decide)]; omega
    have hmod : 0 ≤ (k : Int).fmod 2 := by rw [Int.fmod_eq_emod_of_nonneg _ (by decide)]; omega
    refine Ex.cons rfl ?_
    refine Ex.setItem ?_ rfl
    refine Ev.methD PySem.F.slot_dict_get PySem.F.type_dict_get ?_
    walk_at "ev"
    refine ⟨w, _, rfl, List.mem_append_right _ List.mem_cons_self, ?_⟩
    walk_at "ev"
    walk_at "ev"
    walk_at "ev"
    walk_at "ev"
    walk_at "ev"
    refine Bin.divI (by decide) (by decide) ?_
    walk_at "ev"
    refine Bin.addI ?_
    walk_at "ev"
    walk_at "ev"
    walk_at "ev"
    walk_at "ev"
    walk_at "ev"
    walk_at "ev"
    walk_at "ev"
    walk_at "ev"
    refine Bin.modI (by decide) ?_
    refine Bin.mulI ?_ (mul_ok (by decide) (by decide))
    refine Bin.subI ?_
    walk_at "ev"
    refine dict_get (l := wayM l) (List.mem_append_right _ List.mem_cons_self) ?_
    have hv : ∃ v : Int, (atM (wayM l) ((k : Int).fdiv 2 + 1)).getD (.int ((1 : Int) - 2 * (k : Int).fmod 2)) = .int v ∧ (v = 1 ∨ v = -1) := by
      rw [atM_way]
      rcases hW.at_ (i := (k : Int).fdiv 2 + 1) with ⟨v, e, hv⟩ | e
      · exact ⟨v, by rw [e]; rfl, hv⟩
      · exact ⟨_, by rw [e]; rfl, hval⟩
    obtain ⟨v, ev, hv⟩ := hv
    rw [ev]
    walk_at "ev"
    walk_at "ev"
    walk_at "ev"
    walk_at "ev"
    walk_at "ev"
    refine Bin.divI (by decide) (by decide) ?_
    walk_at "ev"
    refine Bin.addI ?_
    refine SetD.int (δ1 := feedD a cells (s' + 1)) (δ2 := []) (by unfold wayM; rw [List.length_map, sizeLine_eq]; omega) ?_
    rw [wayPut_is]
    refine Ex.nil ⟨_, s' + 1, rfl, (SubV.ofMap rfl), hW.put hkey hv, by omega, ?_⟩
    have := wayPut_len l ((k : Int).fdiv 2 + 1) v
    omega
  rintro ρ δ' ⟨l, s', rfl, hV, hW, hs', hl⟩
  simp only [List.length_nil, Nat.add_zero] at hs' hl
  refine Ex.vars _ hV ?_
  refine Ex.cons rfl (Ex.ret ?_)
  refine Ev.call O (by kernel_rfl) (g_tuple G) Kp.type ?_
  walk_at "ev"
  refine Ev.comp' O hA'.hh ?cb ?_
  (case cb => kernel_rfl)
  refine Ev.call O (by kernel_rfl) (g_sorted G) Kp.builtin ?_
  walk_at "ev"; walk_at "ev"; walk_at "ev"
  have hwl : (wayM l).length ≤ sizeLine := by unfold wayM; rw [List.length_map, sizeLine_eq]; omega
  refine sorted_of ((Cl.dict (A := A'.in1) (kl := wayM l) hA'.hh (List.mem_append_right _ List.mem_cons_self) hwl).mono fun items e => ⟨l.map (·.1), ?_, ?_, ?_⟩)
  · rw [e]; unfold wayM; rw [List.map_map, List.map_map]; rfl
  · rw [List.length_map]; omega
  refine ⟨_, It.list hA'.hh, fun items e => ?_⟩
  subst e
  have hkl : (isort (l.map (·.1))).length = l.length := by rw [(isort_perm _).length_eq, List.length_map]
  refine ⟨sz64 (by rw [hkl]; omega), fun C OC => CpOk.map_ (fun x => MV.int x) (fun x => MV.int ((wayAt l x).getD 0 * x)) (isort (l.map (·.1))) [] (fun x hx => ?_) ?_⟩
  · obtain ⟨v, hv, hv'⟩ := hW.in_ ((isort_perm _).mem_iff.mp hx)
    walk_at "ev"
    refine Ev.sub ?_
    walk_at "ev"
    walk_at "ev"
    refine Sb.dictI (l := wayM l) (List.mem_append_right _ List.mem_cons_self) (by rw [atM_way, hv]; rfl) ?_
    walk_at "ev"
    refine Bin.mulI ⟨rfl, by rw [hv]; rfl⟩ ?_
    rcases hv' with rfl | rfl <;> exact IntMulOk.of_left (by decide)
  rw [List.nil_append]
  walk_at "ev"
  have e2 : (isort (l.map (·.1))).map (fun x => MV.int ((wayAt l x).getD 0 * x)) = ints' (wayC l) := by unfold wayC ints'; rw [List.map_map]; rfl
  rw [e2]
  refine Co.quiet (tup_list (sz64 (by rw [wayC_len]; omega)) ?_)
  exact ⟨feedD a cells s', _, rfl, rfl, wayC l, s', rfl, rfl, hs', wayC_ok hW, by rw [wayC_len]; omega⟩
end
end
end Mine

/- part RN -/
namespace Mine
noncomputable section
open PySem PySem.W PySem.Calls PyProof.Rows

local macro_rules | `(tactic| walk_at "ev") => `(tactic| first
  | with_reducible refine Ev.int ?_
  | with_reducible refine Ev.str ?_
  | with_reducible refine Ev.bool ?_
  | with_reducible refine Ev.none_ ?_
  | ((with_reducible refine' Ev.name (by assumption) ?evn ?_); (case evn => rfl))
  | ((with_reducible refine' Ev.globT (by assumption) (by kernel_rfl) ?evg ?_); (case evg => first | exact g_int (by assumption) | exact g_bool (by assumption) | exact g_str (by assumption) | exact g_tuple (by assumption)))
  | with_reducible refine Ev.bin ?_
  | with_reducible refine Ev.un ?_
  | with_reducible refine Ev.ifExp ?_
  | ((with_reducible refine Ev.cmp ?_ ?evm); (case evm => with_unfolding_all rfl))
  | with_reducible refine Ev.tuple ?_
  | with_reducible refine Ev.list ?_
  | with_reducible refine El.nil ?_
  | ((with_reducible refine El.cons ?_ ?elh); (case elh => rfl)))


noncomputable def alV (al : List (Int × Nat)) : List MV := al.map fun q => .tup [.int q.1, .int (q.2 : Int)]
theorem alV_flat {al : List (Int × Nat)} : ∀ m ∈ alV al, Flat 9 m := fun m hm => by
  obtain ⟨q, _, rfl⟩ := List.mem_map.mp hm
  exact ⟨by simp [okD, okDs], by simp [dat, dats, PyData.depth, PyData.depthAll]⟩
theorem lits_ok {u d : List Nat} (hu : u ∈ subs) (hd : d ∈ subs) : LitOk (lits u d) := fun x hx => by
  rcases List.mem_append.mp hx with h | h
  · obtain ⟨n, hn, rfl⟩ := List.mem_map.mp h
    exact subs_U5 u hu n (by simpa using hn)
  · obtain ⟨n, hn, rfl⟩ := List.mem_map.mp h
    show (-(n : Int)).natAbs ∈ U5
    rw [Int.natAbs_neg, Int.natAbs_natCast]
    exact subs_U5 d hd n hn
theorem lits_len {u d : List Nat} (hu : u ∈ subs) (hd : d ∈ subs) : (lits u d).length ≤ 10 := by
  unfold lits
  rw [List.length_append, List.length_map, List.length_map]
  have := subs_len u hu; have := subs_len d hd; omega
theorem U5_of {x : Nat} (h1 : 1 ≤ x) (h2 : x ≤ 5) : x ∈ U5 := by
  have : x = 1 ∨ x = 2 ∨ x = 3 ∨ x = 4 ∨ x = 5 := by omega
  rcases this with rfl | rfl | rfl | rfl | rfl <;> decide
section
variable {B : Bs} {A : Around} {env : Env} {ρ : Vs} {δ δn : Ds}
theorem Ex.ifAnd {x y : Expr} {b o : List Stmt} {p pos : Pos} {b1 : Bool} {Q : MF → Vs → Ds → Prop} (hx : Etq B A env x ρ δ b1) (hy : b1 = true → Et B A env (isTrue y env (eval y env)) ρ δ fun _ δ2 => δ2 = δn)
    (hT : b1 = true → Ex B A env (execs b env) ρ δn Q) (hE : ∀ δ2, (δ2 = δ ∨ δ2 = δn) → Ex B A env (execs o env) ρ δ2 Q) : Ex B A env (exec (.If (.BoolOp .And [x, y] p) b o pos) env) ρ δ Q := by
  refine Ex.if_ (Et.boolop (Et.and (hx.mono fun b' δ' ⟨e, eb⟩ => ?_)))
  subst e eb
  cases b' with
  | false => exact hE _ (.inl rfl)
  | true =>
    refine Et.and ((hy rfl).mono fun b' δ' e => ?_)
    subst e
    cases b' with
    | false => exact hE _ (.inr rfl)
    | true => exact Et.andNil (hT rfl)
end
section
variable {B : Bs} {A : Around} {δ : Ds} {a : Addr} {cells : List Int}
/-- what is told of a chain, and of its making -/
noncomputable abbrev ChainQ (a : Addr) (cells : List Int) (cs : List (List Int)) (s : Nat) : MV → Ds → Prop := fun r δ' => ∃ (clause : List Int) (ps : List Nat) (js : List Int) (s' : Nat), r = .tup [.tup (ints' clause), natsV ps, .tup (ints' js)] ∧ δ' = feedD a cells s' ∧ s' ≤ s + 20 ∧
      LitOk clause ∧ clause.length ≤ 10 ∧ ps ≠ [] ∧ ps.length ≤ 4 ∧ (∀ k ∈ ps, k < cs.length) ∧ js.length + 1 = ps.length
noncomputable abbrev ChV (a : Addr) (cs : List (List Int)) (many : Nat) (ps : List Nat) (js : List Int) (u d : List Nat) : Vs := [("feed", .dict a), ("steps", stepsV cs), ("many", .int (many : Int)), ("premises", .lst (ps.map fun (k : Nat) => .int (k : Int))), ("note", .lst (ints' js)), ("left", .tup [.set u, .set d])]
noncomputable abbrev ChM (a : Addr) (cells : List Int) (cs : List (List Int)) (s : Nat) : MF → Vs → Ds → Prop := fun f ρ' δ' => f = .next ∧ ∃ (ps : List Nat) (js : List Int) (u d : List Nat) (s' : Nat), δ' = feedD a cells s' ∧ s' ≤ s + 20 ∧ u ∈ subs ∧ d ∈ subs ∧ ps ≠ [] ∧ ps.length ≤ 4 ∧ (∀ k ∈ ps, k < cs.length) ∧ js.length + 1 = ps.length ∧
     SubV [("premises", .lst (ps.map fun (k : Nat) => .int (k : Int))), ("note", .lst (ints' js)), ("left", .tup [.set u, .set d])] ρ'
noncomputable abbrev ChJ (a : Addr) (cells : List Int) (cs : List (List Int)) (s many : Nat) (r : List Nat) (ρ' : Vs) (δ' : Ds) : Prop := ∃ (ps : List Nat) (js : List Int) (u d : List Nat) (s' : Nat), δ' = feedD a cells s' ∧ s' + 4 * r.length ≤ s + 20 ∧ u ∈ subs ∧ d ∈ subs ∧ ps ≠ [] ∧ ps.length + r.length ≤ 4 ∧ (∀ k ∈ ps, k < cs.length) ∧ js.length + 1 = ps.length ∧
       SubV (ChV a cs many ps js u d) ρ'
noncomputable abbrev ChA (cs : List (List Int)) (δ : Ds) (V : Vs) (r : List Nat) (ρ' : Vs) (δ' : Ds) : Prop := δ' = δ ∧ (∀ k ∈ r, k < cs.length) ∧ ∃ al : List (Int × Nat), al.length + 5 * r.length ≤ 20 ∧ (∀ q ∈ al, q.2 < cs.length) ∧ SubV (("able", .lst (alV al)) :: V) ρ'
noncomputable abbrev ChK (a : Addr) (cells : List Int) (cs : List (List Int)) (s' : Nat) (V : Vs) : MF → Vs → Ds → Prop := fun f ρ' δ' => f = .next ∧ ∃ (v : Int) (k : Nat) (s2 : Nat), δ' = feedD a cells s2 ∧ s2 ≤ s' + 3 ∧ k < cs.length ∧ SubV (("var", .int v) :: ("k", .int (k : Int)) :: V) ρ'
set_option maxHeartbeats 4000000 in
theorem co_law_chain (G : Ok B) (hA : AOk 3 A) {cs : List (List Int)} {s many : Nat} (hs : s ≤ 1000) (hc : cells.length < 64) (hm : 2 ≤ many ∧ many ≤ 4) (hcs : StepsOk cs) (hcs0 : 0 < cs.length) (hcs4 : cs.length ≤ 4) :
    Co B A (.ref 231) [.dict a, stepsV cs, .int (many : Int)] (feedD a cells s) (ChainQ a cells cs s) := by
  have hsl : (cs.map stepV).length ≤ sizeLine := by rw [List.length_map]; exact lt64 hcs.1
  have hp24 : (2 : Int) ^ 24 = 16777216 := by decide
  refine Co.fn (fn_law_chain G.hK) hA (by kernel_rfl) fun A' L qual code hA' O hC => ?_
  refine Ex.cons rfl ?_
  refine Ex.assignSwap (xs := ["premises", "note"]) O hA'.hh (fun x hx => ?_) ?_ rfl rfl
  · simp only [List.mem_cons, List.not_mem_nil, or_false] at hx
    rcases hx with rfl | rfl <;> exact .inl (by kernel_rfl)
  walk_at "ev"
  walk_at "ev"
  walk_at "ev"
  walk_at "ev"
  refine Ev.call O (by kernel_rfl) (g_law_next G) (fn_law_next G.hK).kp ?_
  walk_at "ev"; walk_at "ev"; walk_at "ev"
  refine Ev.call O (by kernel_rfl) (g_len G) Kp.builtin ?_
  walk_at "ev"; walk_at "ev"; walk_at "ev"
  refine Co.quiet (len_l hsl ?_)
  walk_at "ev"
  rw [List.length_map]
  refine next_0 G (hA'.less (by omega)) (by omega) hc hcs0 fun p0 hp0 => ?_
  walk_at "ev"
  refine ⟨by rw [sizeLine_eq]; simp, ?_⟩
  walk_at "ev"
  walk_at "ev"
  walk_at "ev"
  refine ⟨by rw [sizeLine_eq]; simp, ?_⟩
  walk_at "ev"
  refine ⟨by rw [sizeLine_eq]; simp, _, rfl, rfl, ?_⟩
  refine Ex.vars [("feed", .dict a), ("steps", stepsV cs), ("many", .int (many : Int)), ("premises", .lst [.int (p0 : Int)]), ("note", .lst [])] (SubV.ofMap rfl) ?_
  have hc0 := hcs.at_ hp0
  refine Ex.cons rfl ?_
  refine Ex.assign O (.inl (by kernel_rfl)) ?_ rfl
  refine Ev.call O (by kernel_rfl) (g_law_sets G) (fn_law_sets G.hK).kp ?_
  walk_at "ev"
  refine Ev.sub (Ev.sub ?_)
  walk_at "ev"
  refine Ev.sub ?_
  walk_at "ev"
  walk_at "ev"
  refine Sb.listI (k := 0) (by rw [sizeLine_eq]; simp) rfl ?_
  refine Sb.listI (k := p0) hsl (stepsV_get hp0) ?_
  walk_at "ev"
  refine Sb.tupI (k := 1) (by rw [sizeLine_eq]; simp) rfl ?_
  walk_at "ev"
  refine Co.fnKeep (co_law_sets G (hA'.less (by omega)) hc0.1 hc0.2) fun m e => ?_
  subst e
  refine Ex.vars [("feed", .dict a), ("steps", stepsV cs), ("many", .int (many : Int)), ("premises", .lst [.int (p0 : Int)]), ("note", .lst []), ("left", .tup [.set (ups (cs.getD p0 [])), .set (downs (cs.getD p0 []))])] (SubV.ofMap rfl) ?_
  refine Ex.cons rfl ?_
  refine Ex.mono (Q := ChM a cells cs s) ?_ ?_
  · refine Ex.for_ (x := "lap") O hA'.hh (.inl (by kernel_rfl)) ?_
    refine Ev.call O (by kernel_rfl) (g_range G) Kp.type ?_
    walk_at "ev"
    refine Ev.call O (by kernel_rfl) (g_law_next G) (fn_law_next G.hK).kp ?_
    walk_at "ev"; walk_at "ev"; walk_at "ev"; walk_at "ev"; walk_at "ev"
    refine next_0 (w := 4) G (hA'.less (by omega)) (by omega) hc (by decide) fun laps hlaps => ?_
    walk_at "ev"
    refine Co.quiet (range1 ?_)
    refine ⟨_, It.rng hA'.hh (by omega) (by omega) (by rw [hp24]; omega), fun items e => ?_⟩
    subst e
    rw [rng0]
    refine ForOk.run (fun (n : Nat) => MV.int (n : Int)) (ChJ a cells cs s many) ?_ ?_ _ _ _
      ⟨[p0], [], _, _, s + 1 + 1, rfl, by rw [List.length_range]; omega, cn_subs _, cn_subs _, by simp, by rw [List.length_range]; simp; omega, fun k hk => by rw [List.mem_singleton] at hk; exact hk ▸ hp0, rfl, (SubV.ofMap rfl)⟩
    · rintro lap r ρ δ' ⟨ps, js, u, d, s', rfl, hs', hu, hd, hp, hpl, hpk, hjs, hV⟩
      rw [List.length_cons] at hs' hpl
      let V0 : Vs := (ChV a cs many ps js u d)
      refine Ex.vars (ChV a cs many ps js u d) (SubV.set1 hV (by kernel_rfl)).2 ?_
      refine Ex.cons rfl ?_
      refine Ex.assign O (.inl (by kernel_rfl)) ?_ rfl
      walk_at "ev"
      walk_at "ev"
      refine ⟨by rw [sizeLine_eq]; simp, ?_⟩
      refine Ex.cons rfl ?_
      refine Ex.for_ (x := "k") O hA'.hh (.inr ⟨by kernel_rfl, _, rfl⟩) ?_
      refine Ev.call O (by kernel_rfl) (g_range G) Kp.type ?_
      walk_at "ev"
      refine Ev.call O (by kernel_rfl) (g_len G) Kp.builtin ?_
      walk_at "ev"; walk_at "ev"; walk_at "ev"
      refine Co.quiet (len_l hsl ?_)
      walk_at "ev"
      rw [List.length_map]
      refine Co.quiet (range1 ?_)
      refine ⟨_, It.rng hA'.hh (by omega) (by omega) (by rw [hp24]; omega), fun items e => ?_⟩
      subst e
      rw [Int.sub_zero, Int.toNat_natCast, rng0]
      refine ForOk.run (fun (n : Nat) => MV.int (n : Int)) (ChA cs (feedD a cells s') (ChV a cs many ps js u d)) ?_ ?_ _ _ _
        ⟨rfl, fun k hk => List.mem_range.mp hk, [], by rw [List.length_range]; simp; omega, (fun _ h => nomatch h), (SubV.ofMap rfl)⟩
      · rintro k r2 ρ δ' ⟨rfl, hr, al, hal, halk, hV⟩
        rw [List.length_cons] at hal
        have hk0 := hr k List.mem_cons_self
        have hck := hcs.at_ hk0
        refine Ex.vars _ (SubV.set1 hV (by kernel_rfl)) ?_
        refine Ex.cons rfl ?_
        refine Ex.assignTup (xs := ["ups", "downs"]) O hA'.hh rfl (fun x hx => ?_) ?_ rfl rfl
        · simp only [List.mem_cons, List.not_mem_nil, or_false] at hx
          rcases hx with rfl | rfl <;> exact .inl (by kernel_rfl)
        refine Ev.call O (by kernel_rfl) (g_law_sets G) (fn_law_sets G.hK).kp ?_
        walk_at "ev"
        refine Ev.sub (Ev.sub ?_)
        walk_at "ev"
        walk_at "ev"
        refine Sb.listI (k := k) hsl (stepsV_get hk0) ?_
        walk_at "ev"
        refine Sb.tupI (k := 1) (by rw [sizeLine_eq]; simp) rfl ?_
        walk_at "ev"
        refine Co.fnKeep (co_law_sets G (hA'.less (by omega)) hck.1 hck.2) fun m e => ?_
        subst e
        refine ⟨_, rfl, rfl, ?_⟩
        refine Ex.vars (("ups", .set (ups (cs.getD k []))) :: ("downs", .set (downs (cs.getD k []))) :: ("k", .int (k : Int)) :: ("able", .lst (alV al)) :: ChV a cs many ps js u d) (SubV.ofMap rfl) ?_
        refine Ex.cons rfl ?_
        refine Ex.assign O (.inl (by kernel_rfl)) ?_ rfl
        walk_at "ev"
        walk_at "ev"
        refine Ev.comp' O hA'.hh ?cb ?_
        (case cb => kernel_rfl)
        refine Ev.call O (by kernel_rfl) (g_sorted G) Kp.builtin ?_
        walk_at "ev"
        walk_at "ev"
        walk_at "ev"
        refine Ev.sub ?_
        walk_at "ev"
        walk_at "ev"
        refine Sb.tupI (k := 0) (by rw [sizeLine_eq]; simp) rfl ?_
        walk_at "ev"
        refine Bin.andS ?_
        walk_at "ev"
        refine Ev.sub ?_
        walk_at "ev"
        walk_at "ev"
        refine Sb.tupI (k := 1) (by rw [sizeLine_eq]; simp) rfl ?_
        walk_at "ev"
        refine Bin.andS ?_
        refine Bin.orS ?_
        walk_at "ev"
        refine sorted_of ((Cl.set (A := A'.in1) hA'.hh).mono fun items ⟨p, hp, e⟩ => ⟨p.map fun (n : Nat) => (n : Int), by rw [e, List.map_map]; rfl, ?_, ?_⟩)
        · rw [List.length_map, hp.length_eq]
          have := subs_len _ (cn_subs fun x => decide (x ∈ itx u (downs (cs.getD k []))) || decide (x ∈ itx d (ups (cs.getD k []))))
          unfold uni
          omega
        have hvl : (isort (p.map fun (n : Nat) => (n : Int))).length ≤ 5 := by
          rw [(isort_perm _).length_eq, List.length_map, hp.length_eq]
          exact subs_len _ (cn_subs _)
        generalize isort (p.map fun (n : Nat) => (n : Int)) = vs at hvl
        refine ⟨_, It.list hA'.hh, fun items e => ?_⟩
        subst e
        refine ⟨sz64 (by omega), fun C OC => CpOk.map_ (fun x => MV.int x) (fun x => MV.tup [.int x, .int (k : Int)]) vs [] (fun x hx => ?_) ?_⟩
        · walk_at "ev"
          walk_at "ev"
          walk_at "ev"
          walk_at "ev"
          walk_at "ev"
          walk_at "ev"
          exact ⟨by rw [sizeLine_eq]; simp, rfl, rfl⟩
        have el : [] ++ vs.map (fun x => MV.tup [.int x, .int (k : Int)]) = alV (vs.map fun x => (x, k)) := by unfold alV; rw [List.map_map]; rfl
        have hal2 : (alV al).length = al.length := by unfold alV; rw [List.length_map]
        have hvs2 : (alV (vs.map fun x => (x, k))).length = vs.length := by unfold alV; rw [List.length_map, List.length_map]
        rw [el]
        refine Bin.addL (by rw [hal2, hvs2]; exact lt64 (by omega)) ?_
        have e2 : alV al ++ alV (vs.map fun x => (x, k)) = alV (al ++ vs.map fun x => (x, k)) := by unfold alV; rw [List.map_append]
        rw [e2]
        refine Ex.nil ⟨rfl, fun k hk => hr k (List.mem_cons_of_mem _ hk), al ++ vs.map fun x => (x, k), by rw [List.length_append, List.length_map]; omega, fun q hq => ?_, (SubV.ofMap rfl)⟩
        rcases List.mem_append.mp hq with hq | hq
        · exact halk q hq
        · obtain ⟨x, _, rfl⟩ := List.mem_map.mp hq; exact hk0
      rintro ρ δ' ⟨rfl, _, al, hal, halk, hV⟩
      simp only [List.length_nil, Nat.mul_zero, Nat.add_zero] at hal
      have hall : (alV al).length = al.length := by unfold alV; rw [List.length_map]
      refine Ex.vars _ hV ?_
      refine Ex.cons rfl ?_
      refine Ex.mono (Q := ChK a cells cs s' (ChV a cs many ps js u d)) ?_ ?_
      · refine Ex.ifAnd (δn := feedD a cells (s' + 1)) (Etq.cmp (b := !(alV al).isEmpty) ?_) (fun _ => ?_) (fun hb => ?_) (fun δ2 hδ => ?_)
        · walk_at "ev"
          walk_at "ev"
          walk_at "ev"
          refine ⟨by rw [sizeLine_eq]; simp, ?_⟩
          exact (Cmp.neNilL hA'.u alV_flat ⟨rfl, rfl⟩).d
        · refine Et.cmp ?_
          refine Ev.call O (by kernel_rfl) (g_law_next G) (fn_law_next G.hK).kp ?_
          walk_at "ev"; walk_at "ev"; walk_at "ev"; walk_at "ev"; walk_at "ev"
          refine next_0 (w := 4) G (hA'.less (by omega)) (by omega) hc (by decide) fun d4 _ => ?_
          walk_at "ev"
          exact (Cmp.gtI (R := fun _ => feedD a cells (s' + 1) = feedD a cells (s' + 1)) rfl).d
        · have hal0 : 0 < al.length := by
            cases al with
            | nil => simp [alV] at hb
            | cons _ _ => simp
          refine Ex.cons rfl ?_
          refine Ex.assignTup (xs := ["var", "k"]) O hA'.hh rfl (fun x hx => ?_) ?_ rfl rfl
          · simp only [List.mem_cons, List.not_mem_nil, or_false] at hx
            rcases hx with rfl | rfl
            · exact .inl (by kernel_rfl)
            · exact .inr ⟨by kernel_rfl, _, rfl⟩
          refine Ev.sub ?_
          walk_at "ev"
          refine Ev.call O (by kernel_rfl) (g_law_next G) (fn_law_next G.hK).kp ?_
          walk_at "ev"; walk_at "ev"; walk_at "ev"
          refine Ev.call O (by kernel_rfl) (g_len G) Kp.builtin ?_
          walk_at "ev"; walk_at "ev"; walk_at "ev"
          refine Co.quiet (len_l (by rw [hall]; exact lt64 (by omega)) ?_)
          walk_at "ev"
          rw [hall]
          refine next_0 G (hA'.less (by omega)) (by omega) hc hal0 fun i hi => ?_
          refine Sb.listI (k := i) (m := .tup [.int (al[i].1), .int (al[i].2 : Int)]) (by rw [hall]; exact lt64 (by omega)) (by unfold alV; rw [List.getElem?_map, List.getElem?_eq_getElem hi]; rfl) ?_
          refine ⟨_, rfl, rfl, ?_⟩
          exact Ex.nil ⟨rfl, al[i].1, al[i].2, s' + 1 + 1, rfl, by omega, halk _ (List.getElem_mem hi), (SubV.ofMap rfl)⟩
        · obtain ⟨s2, rfl, hs2⟩ : ∃ s2, δ2 = feedD a cells s2 ∧ s2 ≤ s' + 1 := by
            rcases hδ with rfl | rfl
            · exact ⟨s', rfl, by omega⟩
            · exact ⟨s' + 1, rfl, by omega⟩
          refine Ex.cons rfl ?_
          refine Ex.assignTup (xs := ["var", "k"]) O hA'.hh rfl (fun x hx => ?_) ?_ rfl rfl
          · simp only [List.mem_cons, List.not_mem_nil, or_false] at hx
            rcases hx with rfl | rfl
            · exact .inl (by kernel_rfl)
            · exact .inr ⟨by kernel_rfl, _, rfl⟩
          walk_at "ev"
          walk_at "ev"
          walk_at "ev"
          walk_at "ev"
          refine Ev.call O (by kernel_rfl) (g_law_next G) (fn_law_next G.hK).kp ?_
          walk_at "ev"; walk_at "ev"; walk_at "ev"; walk_at "ev"; walk_at "ev"
          refine next_0 G (hA'.less (by omega)) (by omega) hc (by omega) fun v hv => ?_
          refine Bin.addI ?_
          walk_at "ev"
          refine Ev.call O (by kernel_rfl) (g_law_next G) (fn_law_next G.hK).kp ?_
          walk_at "ev"; walk_at "ev"; walk_at "ev"
          refine Ev.call O (by kernel_rfl) (g_len G) Kp.builtin ?_
          walk_at "ev"; walk_at "ev"; walk_at "ev"
          refine Co.quiet (len_l hsl ?_)
          walk_at "ev"
          rw [List.length_map]
          refine next_0 G (hA'.less (by omega)) (by omega) hc hcs0 fun k hk => ?_
          walk_at "ev"
          refine ⟨by rw [sizeLine_eq]; simp, _, rfl, rfl, ?_⟩
          exact Ex.nil ⟨rfl, 1 + (v : Int), k, s2 + 1 + 1, rfl, by omega, hk, (SubV.ofMap rfl)⟩
      rintro f ρ' δ' ⟨rfl, v, k, s2, rfl, hs2, hk, hV⟩
      have hck := hcs.at_ hk
      refine Ex.vars _ hV ?_
      refine Ex.cons rfl ?_
      refine Ex.assignSwap (xs := ["premises", "note"]) O hA'.hh (fun x hx => ?_) ?_ rfl rfl
      · simp only [List.mem_cons, List.not_mem_nil, or_false] at hx
        rcases hx with rfl | rfl <;> exact .inl (by kernel_rfl)
      walk_at "ev"
      walk_at "ev"
      walk_at "ev"
      walk_at "ev"
      walk_at "ev"
      walk_at "ev"
      walk_at "ev"
      walk_at "ev"
      refine ⟨by rw [sizeLine_eq]; simp, ?_⟩
      refine Bin.addL (by rw [List.length_map]; exact lt64 (by simp; omega)) ?_
      walk_at "ev"
      walk_at "ev"
      walk_at "ev"
      walk_at "ev"
      walk_at "ev"
      walk_at "ev"
      walk_at "ev"
      refine ⟨by rw [sizeLine_eq]; simp, ?_⟩
      refine Bin.addL (by rw [List.length_map]; exact lt64 (by simp; omega)) ?_
      walk_at "ev"
      refine ⟨by rw [sizeLine_eq]; simp, _, rfl, rfl, ?_⟩
      have ep : (ps.map fun (k : Nat) => MV.int (k : Int)) ++ [.int (k : Int)] = (ps ++ [k]).map fun (k : Nat) => MV.int (k : Int) := by rw [List.map_append]; rfl
      have ej : ints' js ++ [.int v] = ints' (js ++ [v]) := by show _ = List.map MV.int (js ++ [v]); rw [List.map_append]; rfl
      rw [ep, ej]
      have hk' : ∀ q ∈ ps ++ [k], q < cs.length := fun q hq => by
        rcases List.mem_append.mp hq with h | h
        · exact hpk q h
        · rw [List.mem_singleton] at h; exact h ▸ hk
      have hpl2 : (ps ++ [k]).length + r.length ≤ 4 := by rw [List.length_append]; simp; omega
      have hjs2 : (js ++ [v]).length + 1 = (ps ++ [k]).length := by rw [List.length_append, List.length_append]; simp; omega
      refine Ex.vars [("var", .int v), ("k", .int (k : Int)), ("feed", .dict a), ("steps", stepsV cs), ("many", .int (many : Int)), ("premises", .lst ((ps ++ [k]).map fun (k : Nat) => .int (k : Int))), ("note", .lst (ints' (js ++ [v]))), ("left", .tup [.set u, .set d])] (SubV.ofMap rfl) ?_
      refine Ex.cons rfl ?_
      refine Ex.assign O (.inl (by kernel_rfl)) ?_ rfl
      refine Ev.call O (by kernel_rfl) (g_law_linked G) (fn_law_linked G.hK).kp ?_
      walk_at "ev"
      refine Ev.sub ?_
      walk_at "ev"
      walk_at "ev"
      refine Sb.tupI (k := 0) (by rw [sizeLine_eq]; simp) rfl ?_
      walk_at "ev"
      refine Ev.sub ?_
      walk_at "ev"
      walk_at "ev"
      refine Sb.tupI (k := 1) (by rw [sizeLine_eq]; simp) rfl ?_
      walk_at "ev"
      walk_at "ev"
      walk_at "ev"
      refine Ev.sub (Ev.sub ?_)
      walk_at "ev"
      walk_at "ev"
      refine Sb.listI (k := k) hsl (stepsV_get hk) ?_
      walk_at "ev"
      refine Sb.tupI (k := 1) (by rw [sizeLine_eq]; simp) rfl ?_
      walk_at "ev"
      refine Co.fnKeep (co_law_linked G hA' hu hd hck.1 hck.2) fun m e => ?_
      subst e
      cases hls : linkS u d v (cs.getD k []) with
      | error w =>
        refine Ex.cons rfl ?_
        refine Ex.ifq (c := true) (Et.value ?_) (fun _ => ?_) (fun hb => by cases hb)
        · refine Ev.call O (by kernel_rfl) (g_isinstance G) Kp.builtin ?_
          walk_at "ev"; walk_at "ev"; walk_at "ev"; walk_at "ev"; walk_at "ev"
          exact Co.quiet (isi_ss ⟨_, rfl, rfl, rfl⟩)
        · refine Ex.cons rfl (Ex.brk ?_)
          exact ⟨rfl, ps ++ [k], js ++ [v], u, d, s2, rfl, by omega, hu, hd, by simp, by omega, hk', hjs2, (SubV.ofMap rfl)⟩
      | ok s3 =>
        obtain ⟨u', d'⟩ := s3
        refine Ex.cons rfl ?_
        refine Ex.ifq (c := false) (Et.value ?_) (fun hb => by cases hb) (fun _ => ?_)
        · refine Ev.call O (by kernel_rfl) (g_isinstance G) Kp.builtin ?_
          walk_at "ev"; walk_at "ev"; walk_at "ev"; walk_at "ev"; walk_at "ev"
          exact Co.quiet (isi_ts ⟨_, rfl, rfl, rfl⟩)
        · refine Ex.nil (Ex.cons rfl ?_)
          refine Ex.assign O (.inl (by kernel_rfl)) ?_ rfl
          walk_at "ev"
          refine Ex.nil ⟨ps ++ [k], js ++ [v], u', d', s2, rfl, by omega, (linkS_subs hls).1, (linkS_subs hls).2, by simp, hpl2, hk', hjs2, (SubV.ofMap rfl)⟩
    · rintro ρ δ' ⟨ps, js, u, d, s', rfl, hs', hu, hd, hp, hpl, hpk, hjs, hV⟩
      exact ⟨rfl, ps, js, u, d, s', rfl, hs', hu, hd, hp, hpl, hpk, hjs, hV.2.2.2⟩
  rintro f ρ' δ' ⟨rfl, ps, js, u, d, s', rfl, hs', hu, hd, hp, hpl, hpk, hjs, hV⟩
  refine Ex.vars _ hV ?_
  refine Ex.cons rfl ?_
  refine Ex.assign O (.inl (by kernel_rfl)) ?_ rfl
  refine Ev.sortedAbs O (by kernel_rfl) (g_sorted G) Kp.builtin (by kernel_rfl) (g_abs G) ?_
  walk_at "ev"
  refine Ev.call O (by kernel_rfl) (g_list G) Kp.type ?_
  walk_at "ev"
  refine Ev.sub ?_
  walk_at "ev"
  walk_at "ev"
  refine Sb.tupI (k := 0) (by rw [sizeLine_eq]; simp) rfl ?_
  walk_at "ev"
  refine Co.quiet (lst_set hA'.hh fun items ho => ?_)
  obtain ⟨p, hpp, rfl⟩ := ho
  refine Ev.comp' O hA'.hh ?cb ?_
  (case cb => kernel_rfl)
  refine Ev.sub ?_
  walk_at "ev"
  walk_at "ev"
  refine Sb.tupI (k := 1) (by rw [sizeLine_eq]; simp) rfl ?_
  refine ⟨_, It.set hA'.hh, fun items ho => ?_⟩
  obtain ⟨q, hq, rfl⟩ := ho
  have hp5 : p.length ≤ 5 := hpp.length_eq ▸ subs_len u hu
  have hq5 : q.length ≤ 5 := hq.length_eq ▸ subs_len d hd
  refine ⟨by rw [List.length_map]; exact lt64 (by omega), fun C OC => CpOk.map_ (fun (n : Nat) => MV.int (n : Int)) (fun (n : Nat) => MV.int (-(n : Int))) q [] (fun x hx => ?_) ?_⟩
  · walk_at "ev"
    walk_at "ev"
    exact Un.neg ⟨rfl, rfl⟩
  rw [List.nil_append]
  refine Bin.addL (by rw [List.length_map, List.length_map]; exact lt64 (by omega)) ?_
  have hlen2 : (p.map (fun (x : Nat) => (x : Int)) ++ q.map fun (x : Nat) => -(x : Int)).length ≤ 10 := by simp; omega
  have e1 : (p.map fun (n : Nat) => MV.int (n : Int)) ++ (q.map fun (n : Nat) => MV.int (-(n : Int))) = ints' (p.map (fun (x : Nat) => (x : Int)) ++ q.map fun (x : Nat) => -(x : Int)) := by
    show _ = List.map MV.int (_ ++ _)
    rw [List.map_append, List.map_map, List.map_map]; rfl
  rw [e1]
  refine ⟨_, rfl, by omega, fun cl hcl _ => ?_⟩
  have hcp : cl.Perm (lits u d) := hcl.trans (lits_perm hpp hq)
  have hcll : cl.length ≤ 10 := hcp.length_eq ▸ lits_len hu hd
  refine Ex.vars [("premises", .lst (ps.map fun (k : Nat) => .int (k : Int))), ("note", .lst (ints' js)), ("clause", .lst (ints' cl))] (SubV.ofMap rfl) ?_
  refine Ex.cons rfl (Ex.ret ?_)
  walk_at "ev"
  walk_at "ev"
  refine Ev.call O (by kernel_rfl) (g_tuple G) Kp.type ?_
  walk_at "ev"; walk_at "ev"; walk_at "ev"
  refine Co.quiet (tup_list (sz64 (by omega)) ?_)
  walk_at "ev"
  refine Ev.call O (by kernel_rfl) (g_tuple G) Kp.type ?_
  walk_at "ev"; walk_at "ev"; walk_at "ev"
  refine Co.quiet (tup_list (by rw [List.length_map]; exact lt64 (by omega)) ?_)
  walk_at "ev"
  refine Ev.call O (by kernel_rfl) (g_tuple G) Kp.type ?_
  walk_at "ev"; walk_at "ev"; walk_at "ev"
  refine Co.quiet (tup_list (sz64 (by omega)) ?_)
  walk_at "ev"
  refine ⟨by rw [sizeLine_eq]; simp, ?_⟩
  exact ⟨feedD a cells s', [], (List.append_nil _).symm, rfl, cl, ps, js, s', rfl, rfl, hs', fun x hx => lits_ok hu hd x (hcp.mem_iff.mp hx), hcll, hp, hpl, hpk, hjs⟩
end
end
end Mine

/- part RO -/
namespace Mine
noncomputable section
open PySem PySem.W PySem.Calls PyProof.Rows

local macro_rules | `(tactic| walk_at "ev") => `(tactic| first
  | with_reducible refine Ev.int ?_
  | with_reducible refine Ev.str ?_
  | with_reducible refine Ev.bool ?_
  | with_reducible refine Ev.none_ ?_
  | ((with_reducible refine' Ev.name (by assumption) ?evn ?_); (case evn => rfl))
  | ((with_reducible refine' Ev.globT (by assumption) (by kernel_rfl) ?evg ?_); (case evg => first | exact g_int (by assumption) | exact g_bool (by assumption) | exact g_str (by assumption) | exact g_tuple (by assumption)))
  | with_reducible refine Ev.bin ?_
  | with_reducible refine Ev.un ?_
  | with_reducible refine Ev.ifExp ?_
  | ((with_reducible refine Ev.cmp ?_ ?evm); (case evm => with_unfolding_all rfl))
  | with_reducible refine Ev.tuple ?_
  | with_reducible refine Ev.list ?_
  | with_reducible refine El.nil ?_
  | ((with_reducible refine El.cons ?_ ?elh); (case elh => rfl)))


section
variable {B : Bs} {A : Around} {δ : Ds} {l : List MV} {P : MV → Prop}
theorem slT_take {k : Nat} (hl : l.length < 64) (h : P (.tup (l.take k))) : Sb B A δ (.tup l) (.slc .none (.int (k : Int)) .none) P :=
  Sb.tupS (a := none) (b := some (k : Int)) (c := none) (by rw [tsl_take, List.length_take, sizeLine_eq]; omega) rfl rfl rfl (by simp) (by rw [tsl_take]; exact h)
theorem slT_drop {k : Nat} (hl : l.length < 64) (h : P (.tup (l.drop k))) : Sb B A δ (.tup l) (.slc (.int (k : Int)) .none .none) P :=
  Sb.tupS (a := some (k : Int)) (b := none) (c := none) (by rw [tsl_drop, List.length_drop, sizeLine_eq]; omega) rfl rfl rfl (by simp) (by rw [tsl_drop]; exact h)
theorem slT_drop1 {k : Nat} (hl : l.length < 64) (h : P (.tup (l.drop (k + 1)))) : Sb B A δ (.tup l) (.slc (.int ((k : Int) + 1)) .none .none) P := by
  have : ((k : Int) + 1) = ((k + 1 : Nat) : Int) := by push_cast; rfl
  rw [this]; exact slT_drop hl h
theorem slT_init (hl : l.length < 64) (h : P (.tup l.dropLast)) : Sb B A δ (.tup l) (.slc .none (.int (-1)) .none) P :=
  Sb.tupS (a := none) (b := some (-1)) (c := none) (by rw [tsl_init, List.length_dropLast, sizeLine_eq]; omega) rfl rfl rfl (by simp) (by rw [tsl_init]; exact h)
theorem slT_rev (hl : l.length < 64) (h : P (.tup l.reverse)) : Sb B A δ (.tup l) (.slc .none .none (.int (-1))) P :=
  Sb.tupS (a := none) (b := none) (c := some (-1)) (by rw [tsl_rev, List.length_reverse, sizeLine_eq]; omega) rfl rfl rfl (by simp) (by rw [tsl_rev]; exact h)
end
theorem LitOk.app {a b : List Int} (h1 : LitOk a) (h2 : LitOk b) : LitOk (a ++ b) := fun x hx => (List.mem_append.mp hx).elim (h1 x) (h2 x)
theorem LitOk.take {a : List Int} {k : Nat} (h : LitOk a) : LitOk (a.take k) := fun x hx => h x (List.mem_of_mem_take hx)
theorem LitOk.drop {a : List Int} {k : Nat} (h : LitOk a) : LitOk (a.drop k) := fun x hx => h x (List.mem_of_mem_drop hx)
theorem LitOk.one {x : Int} (h : x.natAbs ∈ U5) : LitOk [x] := fun y hy => by rw [List.mem_singleton] at hy; exact hy ▸ h
section
variable {B : Bs} {A : Around} {δ : Ds} {a : Addr} {cells : List Int}
noncomputable abbrev BcQ (a : Addr) (cells : List Int) (s : Nat) : MV → Ds → Prop := fun r δ' => ∃ (c' : List Int) (s' : Nat), r = .tup (ints' c') ∧ δ' = feedD a cells s' ∧ s' ≤ s + 2 ∧ LitOk c' ∧ c'.length ≤ 11
set_option maxHeartbeats 4000000 in
theorem co_law_bent_clause (G : Ok B) (hA : AOk 2 A) {c : List Int} {s many way : Nat} (hs : s ≤ 1000) (hc : cells.length < 64) (hm : 2 ≤ many ∧ many ≤ 4) (hco : LitOk c) (hcl : c.length ≤ 10) :
    Co B A (.ref 236) [.dict a, .tup (ints' c), .int (way : Int), .int (many : Int)] (feedD a cells s) (BcQ a cells s) := by
  have hil : (ints' c).length < 64 := by rw [List.length_map]; omega
  refine Co.fn (fn_law_bent_clause G.hK) hA (by kernel_rfl) fun A' L qual code hA' O hC => ?_
  have fin : ∀ {c' : List Int} {s' : Nat}, s' ≤ s + 2 → LitOk c' → c'.length ≤ 11 → FnQ (feedD a cells s) (BcQ a cells s) (.ret (.tup (ints' c'))) [] (feedD a cells s') :=
    fun {c' s'} h1 h2 h3 => ⟨_, [], (List.append_nil _).symm, rfl, c', s', rfl, rfl, h1, h2, h3⟩
  refine Ex.cons rfl ?_
  refine Ex.ifq (c := ((way : Int) == 2)) (Etq.cmp ?_) (fun _ => ?_) (fun _ => ?_)
  · walk_at "ev"; walk_at "ev"; exact (Cmp.eqI ⟨rfl, rfl⟩).d
  · refine Ex.cons rfl ?_
    refine Ex.assign O (.inr ⟨by kernel_rfl, _, rfl⟩) ?_ rfl
    walk_at "ev"
    walk_at "ev"
    refine Ev.call O (by kernel_rfl) (g_law_next G) (fn_law_next G.hK).kp ?_
    walk_at "ev"; walk_at "ev"; walk_at "ev"; walk_at "ev"; walk_at "ev"; walk_at "ev"
    refine Bin.addI ?_
    walk_at "ev"
    have em : ((many : Int) + 1) = ((many + 1 : Nat) : Int) := by push_cast; rfl
    rw [em]
    refine next_0 G hA' (by omega) hc (by omega) fun v hv => ?_
    refine Bin.addI ?_
    refine Ex.vars [("feed", .dict a), ("clause", .tup (ints' c)), ("var", .int (1 + (v : Int)))] (SubV.ofMap rfl) ?_
    refine Ex.cons rfl ?_
    refine Ex.assignComp' O hA'.hh ?ca ?cw (.inl (by kernel_rfl)) ?_
    (case ca => kernel_rfl)
    (case cw => with_unfolding_all rfl)
    walk_at "ev"
    refine ⟨_, It.tup hA'.hh, fun items e => ?_⟩
    subst e
    refine ⟨lt64 hil, fun C OC => CpOk.filt (fun x => MV.int x) (fun x => absI x != 1 + (v : Int)) (fun x => MV.int x) c [] (fun x hx => ?_) (fun x hx _ => ?_) ?_⟩
    · refine Etq.cmp ?_
      refine Ev.call OC (by kernel_rfl) (g_abs G) Kp.builtin ?_
      walk_at "ev"; walk_at "ev"; walk_at "ev"
      refine Co.quiet (abs_int ?_)
      walk_at "ev"
      exact (Cmp.neI ⟨rfl, rfl⟩).d
    · walk_at "ev"
      exact ⟨rfl, rfl⟩
    rw [List.nil_append]
    have hrl : (c.filter fun x => absI x != 1 + (v : Int)).length ≤ 10 := Nat.le_trans (List.length_filter_le _ _) hcl
    have hro : LitOk (c.filter fun x => absI x != 1 + (v : Int)) := fun x hx => hco x (List.mem_filter.mp hx).1
    generalize (c.filter fun x => absI x != 1 + (v : Int)) = rest at hrl hro
    refine Ex.vars [("feed", .dict a), ("rest", .lst (ints' rest)), ("var", .int (1 + (v : Int)))] (SubV.ofMap rfl) ?_
    refine Ex.cons rfl (Ex.ret ?_)
    refine Ev.call O (by kernel_rfl) (g_tuple G) Kp.type ?_
    walk_at "ev"
    refine Ev.sortedAbs O (by kernel_rfl) (g_sorted G) Kp.builtin (by kernel_rfl) (g_abs G) ?_
    walk_at "ev"
    walk_at "ev"
    walk_at "ev"
    walk_at "ev"
    refine Ev.mono (Q := fun m δ' => ∃ y : Int, y.natAbs ∈ U5 ∧ m = .int y ∧ δ' = feedD a cells (s + 1 + 1)) ?_ ?_
    · have hv5 : (1 + (v : Int)).natAbs ∈ U5 := U5_of (by omega) (by omega)
      refine Ev.ifExp (Et.cmp ?_)
      refine Ev.call O (by kernel_rfl) (g_law_next G) (fn_law_next G.hK).kp ?_
      walk_at "ev"; walk_at "ev"; walk_at "ev"; walk_at "ev"; walk_at "ev"
      refine next_0 (w := 2) G hA' (by omega) hc (by decide) fun b2 _ => ?_
      walk_at "ev"
      refine (Cmp.eqI ?_).d
      split
      · walk_at "ev"
        exact ⟨_, hv5, rfl, rfl⟩
      · walk_at "ev"
        walk_at "ev"
        refine Un.neg ⟨_, ?_, rfl, rfl⟩
        rw [Int.natAbs_neg]; exact hv5
    rintro m δ' ⟨y, hy, rfl, rfl⟩
    walk_at "ev"
    refine ⟨by rw [sizeLine_eq]; simp, ?_⟩
    refine Bin.addL (by rw [List.length_map, sizeLine_eq]; simp; omega) ?_
    have e1 : ints' rest ++ [.int y] = (rest ++ [y]).map .int := by rw [List.map_append]; rfl
    rw [e1]
    refine ⟨_, rfl, by rw [List.length_append]; simp; omega, fun cl hcl _ => ?_⟩
    have hl : cl.length ≤ 11 := by rw [hcl.length_eq, List.length_append]; simp; omega
    walk_at "ev"
    refine Co.quiet (tup_list (sz64 (by omega)) ?_)
    exact fin (by omega) (fun x hx => (hro.app (LitOk.one hy)) x (hcl.mem_iff.mp hx)) hl
  refine Ex.nil (Ex.cons rfl ?_)
  refine Ex.ifq (c := (ints' c).isEmpty) (Etq.cmp ?_) (fun _ => ?_) (fun hb => ?_)
  · walk_at "ev"
    walk_at "ev"
    walk_at "ev"
    refine ⟨by rw [sizeLine_eq]; simp, ?_⟩
    exact (Cmp.eqNilT hA'.u (fun m hm => flat_ints m hm) ⟨rfl, rfl⟩).d
  · refine Ex.cons rfl (Ex.ret ?_)
    walk_at "ev"
    walk_at "ev"
    walk_at "ev"
    walk_at "ev"
    refine ⟨by rw [sizeLine_eq]; simp, ?_⟩
    exact fin (c' := [1]) (by omega) (LitOk.one (by decide)) (by decide)
  have hc0 : 0 < c.length := by
    cases c with
    | nil => simp at hb
    | cons _ _ => simp
  refine Ex.nil (Ex.cons rfl ?_)
  refine Ex.assign O (.inl (by kernel_rfl)) ?_ rfl
  refine Ev.call O (by kernel_rfl) (g_law_next G) (fn_law_next G.hK).kp ?_
  walk_at "ev"; walk_at "ev"; walk_at "ev"
  refine Ev.call O (by kernel_rfl) (g_len G) Kp.builtin ?_
  walk_at "ev"; walk_at "ev"; walk_at "ev"
  refine Co.quiet (len_t (lt64 hil) ?_)
  walk_at "ev"
  rw [List.length_map]
  refine next_0 G hA' (by omega) hc hc0 fun i hi => ?_
  have hget : (ints' c)[i]? = some (.int c[i]) := by rw [List.getElem?_map, List.getElem?_eq_getElem hi]; rfl
  have hci : c[i].natAbs ∈ U5 := hco _ (List.getElem_mem hi)
  refine Ex.vars [("clause", .tup (ints' c)), ("way", .int (way : Int)), ("at", .int (i : Int))] (SubV.ofMap rfl) ?_
  refine Ex.cons rfl ?_
  refine Ex.ifq (c := ((way : Int) == 1)) (Etq.cmp ?_) (fun _ => ?_) (fun _ => ?_)
  · walk_at "ev"; walk_at "ev"; exact (Cmp.eqI ⟨rfl, rfl⟩).d
  · refine Ex.cons rfl (Ex.ret ?_)
    walk_at "ev"
    refine Ev.sub ?_
    walk_at "ev"
    refine Ev.slice (Eo.none_ (Eo.some_ ?_))
    walk_at "ev"
    refine Eo.none_ ?_
    refine slT_take hil ?_
    refine Ev.sub ?_
    walk_at "ev"
    refine Ev.slice (Eo.some_ ?_)
    walk_at "ev"
    walk_at "ev"
    walk_at "ev"
    refine Bin.addI ?_
    refine Eo.none_ (Eo.none_ ?_)
    refine slT_drop1 hil ?_
    refine Bin.addT (by rw [List.length_take, List.length_drop, sizeLine_eq]; omega) ?_
    have e1 : (ints' c).take i ++ (ints' c).drop (i + 1) = ints' (c.take i ++ c.drop (i + 1)) := by
      show _ = List.map MV.int _
      rw [List.map_append, List.map_take, List.map_drop]
    rw [e1]
    exact fin (by omega) (hco.take.app hco.drop) (by rw [List.length_append, List.length_take, List.length_drop]; omega)
  refine Ex.nil (Ex.cons rfl ?_)
  refine Ex.ifq (c := ((way : Int) == 3)) (Etq.cmp ?_) (fun _ => ?_) (fun _ => ?_)
  · walk_at "ev"; walk_at "ev"; exact (Cmp.eqI ⟨rfl, rfl⟩).d
  · refine Ex.cons rfl (Ex.ret ?_)
    walk_at "ev"
    walk_at "ev"
    refine Ev.sub ?_
    walk_at "ev"
    refine Ev.slice (Eo.none_ (Eo.some_ ?_))
    walk_at "ev"
    refine Eo.none_ ?_
    refine slT_take hil ?_
    walk_at "ev"
    walk_at "ev"
    walk_at "ev"
    refine Ev.sub ?_
    walk_at "ev"
    walk_at "ev"
    refine Sb.tupI (k := i) (lt64 hil) hget ?_
    refine Un.neg ?_
    walk_at "ev"
    refine ⟨by rw [sizeLine_eq]; simp, ?_⟩
    refine Bin.addT (by rw [List.length_take, sizeLine_eq]; simp; omega) ?_
    refine Ev.sub ?_
    walk_at "ev"
    refine Ev.slice (Eo.some_ ?_)
    walk_at "ev"
    walk_at "ev"
    walk_at "ev"
    refine Bin.addI ?_
    refine Eo.none_ (Eo.none_ ?_)
    refine slT_drop1 hil ?_
    refine Bin.addT (by rw [List.length_append, List.length_take, List.length_drop, sizeLine_eq]; simp; omega) ?_
    have e1 : (ints' c).take i ++ [.int (-c[i])] ++ (ints' c).drop (i + 1) = ints' (c.take i ++ [-c[i]] ++ c.drop (i + 1)) := by
      show _ = List.map MV.int _
      rw [List.map_append, List.map_append, List.map_take, List.map_drop]; rfl
    rw [e1]
    exact fin (by omega) ((hco.take.app (LitOk.one (by rw [Int.natAbs_neg]; exact hci))).app hco.drop) (by rw [List.length_append, List.length_append, List.length_take, List.length_drop]; simp; omega)
  refine Ex.nil (Ex.cons rfl (Ex.ret ?_))
  refine Ev.ifq (c := ((way : Int) == 4)) (Etq.cmp ?_) (fun _ => ?_) (fun _ => ?_)
  · walk_at "ev"; walk_at "ev"; exact (Cmp.eqI ⟨rfl, rfl⟩).d
  · refine Ev.sub ?_
    walk_at "ev"
    refine Ev.slice (Eo.none_ (Eo.none_ (Eo.some_ ?_)))
    walk_at "ev"
    walk_at "ev"
    refine Un.neg ?_
    refine slT_rev hil ?_
    have e1 : (ints' c).reverse = ints' c.reverse := (List.map_reverse ..).symm
    rw [e1]
    exact fin (by omega) (fun x hx => hco x (List.mem_reverse.mp hx)) (by rw [List.length_reverse]; omega)
  · walk_at "ev"
    walk_at "ev"
    refine Ev.sub ?_
    walk_at "ev"
    refine Ev.slice (Eo.none_ (Eo.some_ ?_))
    walk_at "ev"
    refine Eo.none_ ?_
    refine slT_take hil ?_
    walk_at "ev"
    walk_at "ev"
    refine Ev.sub ?_
    walk_at "ev"
    walk_at "ev"
    refine Sb.tupI (k := i) (lt64 hil) hget ?_
    walk_at "ev"
    refine ⟨by rw [sizeLine_eq]; simp, ?_⟩
    refine Bin.addT (by rw [List.length_take, sizeLine_eq]; simp; omega) ?_
    refine Ev.sub ?_
    walk_at "ev"
    refine Ev.slice (Eo.some_ ?_)
    walk_at "ev"
    refine Eo.none_ (Eo.none_ ?_)
    refine slT_drop hil ?_
    refine Bin.addT (by rw [List.length_append, List.length_take, List.length_drop, sizeLine_eq]; simp; omega) ?_
    have e1 : (ints' c).take i ++ [.int c[i]] ++ (ints' c).drop i = ints' (c.take i ++ [c[i]] ++ c.drop i) := by
      show _ = List.map MV.int _
      rw [List.map_append, List.map_append, List.map_take, List.map_drop]; rfl
    rw [e1]
    exact fin (by omega) ((hco.take.app (LitOk.one hci)).app hco.drop) (by rw [List.length_append, List.length_append, List.length_take, List.length_drop]; simp; omega)
end
end
end Mine

/- part RP -/
namespace Mine
noncomputable section
open PySem PySem.W PySem.Calls PyProof.Rows

local macro_rules | `(tactic| walk_at "ev") => `(tactic| first
  | with_reducible refine Ev.int ?_
  | with_reducible refine Ev.str ?_
  | with_reducible refine Ev.bool ?_
  | with_reducible refine Ev.none_ ?_
  | ((with_reducible refine' Ev.name (by assumption) ?evn ?_); (case evn => rfl))
  | ((with_reducible refine' Ev.globT (by assumption) (by kernel_rfl) ?evg ?_); (case evg => first | exact g_int (by assumption) | exact g_bool (by assumption) | exact g_str (by assumption) | exact g_tuple (by assumption)))
  | with_reducible refine Ev.bin ?_
  | with_reducible refine Ev.un ?_
  | with_reducible refine Ev.ifExp ?_
  | ((with_reducible refine Ev.cmp ?_ ?evm); (case evm => with_unfolding_all rfl))
  | with_reducible refine Ev.tuple ?_
  | with_reducible refine Ev.list ?_
  | with_reducible refine El.nil ?_
  | ((with_reducible refine El.cons ?_ ?elh); (case elh => rfl)))


/-- a chain -/
noncomputable def ChainOk (size : Nat) (m : MV) : Prop := ∃ (c : List Int) (ps : List Nat) (t : Bool) (l : List MV), m = .tup [.tup (ints' c), natsV ps, seqV t l] ∧ LitOk c ∧ c.length ≤ 11 ∧ ps.length ≤ 4 ∧ (∀ k ∈ ps, k < size) ∧ l.length ≤ 4 ∧ ∀ m ∈ l, Small m
theorem small_ints {js : List Int} : ∀ m ∈ ints' js, Small m := fun m hm => by
  obtain ⟨i, _, rfl⟩ := List.mem_map.mp hm
  exact .int i
section
variable {B : Bs} {A : Around} {δ : Ds} {a : Addr} {cells : List Int}
theorem lt9 {n : Nat} (h : n < 9) : n = 0 ∨ n = 1 ∨ n = 2 ∨ n = 3 ∨ n = 4 ∨ n = 5 ∨ n = 6 ∨ n = 7 ∨ n = 8 := by
  revert n; decide
theorem lt5 {n : Nat} (h : n < 5) : n = 0 ∨ n = 1 ∨ n = 2 ∨ n = 3 ∨ n = 4 := by
  revert n; decide
theorem log9 {n : Nat} (h : n < 9) : (n : Int).natAbs.log2 < 1920 := by
  revert n; decide
theorem strOk9 {n : Nat} (h : n < 9) : PyData.strOk (Str.ofString (toString (n : Int))) = true := by
  revert n; decide +kernel
noncomputable abbrev BnQ (a : Addr) (cells : List Int) (s size : Nat) : MV → Ds → Prop := fun r δ' => ChainOk size r ∧ ∃ s', δ' = feedD a cells s' ∧ s' ≤ s + 4
noncomputable abbrev BnV (a : Addr) (size many : Nat) (c : List Int) (ps : List Nat) (js : List Int) : Vs := [("feed", .dict a), ("size", .int (size : Int)), ("many", .int (many : Int)), ("clause", .tup (ints' c)), ("premises", natsV ps), ("note", .tup (ints' js))]
set_option maxHeartbeats 4000000 in
theorem co_law_bent (G : Ok B) (hA : AOk 3 A) {c js : List Int} {ps : List Nat} {s many size : Nat} (hs : s ≤ 900) (hc : cells.length < 64) (hm : 2 ≤ many ∧ many ≤ 4) (hco : LitOk c) (hcl : c.length ≤ 10) (hp0 : ps ≠ []) (hpl : ps.length ≤ 4) (hpk : ∀ k ∈ ps, k < size) (hjl : js.length + 1 = ps.length) :
    Co B A (.ref 243) [.dict a, .tup [.tup (ints' c), natsV ps, .tup (ints' js)], .int (size : Int), .int (many : Int)] (feedD a cells s) (BnQ a cells s size) := by
  have hil : (ints' c).length < 64 := by rw [List.length_map]; omega
  have hjl6 : (ints' js).length < 64 := by rw [List.length_map]; omega
  have hpl6 : (ps.map fun (k : Nat) => MV.int (k : Int)).length < 64 := by rw [List.length_map]; omega
  have hp1 : 0 < ps.length := List.length_pos_iff.mpr hp0
  have hsz : 0 < size := by
    cases ps with
    | nil => exact absurd rfl hp0
    | cons k _ => have := hpk k List.mem_cons_self; omega
  refine Co.fn (fn_law_bent G.hK) hA (by kernel_rfl) fun A' L qual code hA' O hC => ?_
  have fin : ∀ {m : MV} {s' : Nat}, s' ≤ s + 4 → ChainOk size m → FnQ (feedD a cells s) (BnQ a cells s size) (.ret m) [] (feedD a cells s') :=
    fun {m s'} h1 h2 => ⟨_, [], (List.append_nil _).symm, rfl, h2, s', rfl, h1⟩
  refine Ex.cons rfl ?_
  refine Ex.assignTup (xs := ["clause", "premises", "note"]) O hA'.hh rfl (fun x hx => ?_) ?_ rfl rfl
  · simp only [List.mem_cons, List.not_mem_nil, or_false] at hx
    rcases hx with rfl | rfl | rfl <;> exact .inl (by kernel_rfl)
  walk_at "ev"
  refine ⟨_, rfl, rfl, ?_⟩
  refine Ex.cons rfl ?_
  refine Ex.assign O (.inl (by kernel_rfl)) ?_ rfl
  refine Ev.call O (by kernel_rfl) (g_law_next G) (fn_law_next G.hK).kp ?_
  walk_at "ev"; walk_at "ev"; walk_at "ev"; walk_at "ev"; walk_at "ev"
  refine next_0 (w := 13) G (hA'.less (by omega)) (by omega) hc (by decide) fun way hway => ?_
  refine Ex.vars (("way", .int (way : Int)) :: BnV a size many c ps js) (SubV.ofMap rfl) ?_
  refine Ex.cons rfl ?_
  refine Ex.ifq (c := decide (0 < (way : Int)) && decide ((way : Int) < 6)) (Etq.cmp2 ?_) (fun _ => ?_) (fun _ => ?_)
  · walk_at "ev"
    walk_at "ev"
    refine (Cmp.ltI ?_).d
    show if decide (0 < (way : Int)) = true then _ else _
    cases h1 : decide (0 < (way : Int)) with
    | false => exact ⟨rfl, rfl⟩
    | true =>
      rw [if_pos rfl]
      walk_at "ev"
      exact (Cmp.ltI ⟨rfl, rfl⟩).d
  · refine Ex.cons rfl (Ex.ret ?_)
    walk_at "ev"
    walk_at "ev"
    refine Ev.call O (by kernel_rfl) (g_law_bent_clause G) (fn_law_bent_clause G.hK).kp ?_
    walk_at "ev"; walk_at "ev"; walk_at "ev"; walk_at "ev"; walk_at "ev"; walk_at "ev"; walk_at "ev"; walk_at "ev"; walk_at "ev"
    refine (co_law_bent_clause G hA' (by omega) hc hm hco hcl).mono fun m δ' _ ⟨c', s', e, e', h1, h2, h3⟩ => ?_
    subst e e'
    walk_at "ev"; walk_at "ev"; walk_at "ev"; walk_at "ev"; walk_at "ev"
    refine ⟨by rw [sizeLine_eq]; simp, ?_⟩
    exact fin (by omega) ⟨c', ps, true, ints' js, rfl, h2, h3, hpl, hpk, by rw [List.length_map]; omega, small_ints⟩
  have neT : ∀ {R : Bool → Prop}, R (!(ints' js).isEmpty) → Cmp B A' .NotEq (.tup (ints' js)) (.tup []) R := fun h => Cmp.neNilT hA'.u (fun m hm => flat_ints m hm) h
  refine Ex.nil (Ex.cons rfl ?_)
  refine Ex.ifq (c := ((way : Int) == 6)) (Etq.cmp ?_) (fun _ => ?_) (fun _ => ?_)
  · walk_at "ev"; walk_at "ev"; exact (Cmp.eqI ⟨rfl, rfl⟩).d
  · refine Ex.cons rfl ?_
    refine Ex.assign O (.inl (by kernel_rfl)) ?_ rfl
    refine Ev.call O (by kernel_rfl) (g_law_next G) (fn_law_next G.hK).kp ?_
    walk_at "ev"; walk_at "ev"; walk_at "ev"
    refine Ev.call O (by kernel_rfl) (g_len G) Kp.builtin ?_
    walk_at "ev"; walk_at "ev"; walk_at "ev"
    refine Co.quiet (len_t (lt64 hpl6) ?_)
    walk_at "ev"
    rw [List.length_map]
    refine next_0 G (hA'.less (by omega)) (by omega) hc hp1 fun i hi => ?_
    refine Ex.cons rfl (Ex.ret ?_)
    walk_at "ev"
    walk_at "ev"
    walk_at "ev"
    walk_at "ev"
    walk_at "ev"
    walk_at "ev"
    refine Ev.sub ?_
    walk_at "ev"
    refine Ev.slice (Eo.none_ (Eo.some_ ?_))
    walk_at "ev"
    refine Eo.none_ ?_
    refine slT_take hpl6 ?_
    walk_at "ev"
    walk_at "ev"
    refine Ev.call O (by kernel_rfl) (g_law_next G) (fn_law_next G.hK).kp ?_
    walk_at "ev"; walk_at "ev"; walk_at "ev"; walk_at "ev"; walk_at "ev"
    refine next_0 G (hA'.less (by omega)) (by omega) hc hsz fun k hk => ?_
    walk_at "ev"
    refine ⟨by rw [sizeLine_eq]; simp, ?_⟩
    refine Bin.addT (by rw [List.length_take, sizeLine_eq]; simp; omega) ?_
    refine Ev.sub ?_
    walk_at "ev"
    refine Ev.slice (Eo.some_ ?_)
    walk_at "ev"
    walk_at "ev"
    walk_at "ev"
    refine Bin.addI ?_
    refine Eo.none_ (Eo.none_ ?_)
    refine slT_drop1 hpl6 ?_
    refine Bin.addT (by rw [List.length_append, List.length_take, List.length_drop, List.length_map, sizeLine_eq]; simp; omega) ?_
    have e1 : (ps.map fun (k : Nat) => MV.int (k : Int)).take i ++ [.int (k : Int)] ++ (ps.map fun (k : Nat) => MV.int (k : Int)).drop (i + 1) = (ps.take i ++ [k] ++ ps.drop (i + 1)).map fun (k : Nat) => MV.int (k : Int) := by
      rw [List.map_append, List.map_append, List.map_take, List.map_drop]; rfl
    rw [e1]
    walk_at "ev"; walk_at "ev"; walk_at "ev"
    refine ⟨by rw [sizeLine_eq]; simp, ?_⟩
    refine fin (by omega) ⟨c, ps.take i ++ [k] ++ ps.drop (i + 1), true, ints' js, rfl, hco, by omega, ?_, fun q hq => ?_, by rw [List.length_map]; omega, small_ints⟩
    · rw [List.length_append, List.length_append, List.length_take, List.length_drop]; simp; omega
    · rcases List.mem_append.mp hq with h | h
      · rcases List.mem_append.mp h with h | h
        · exact hpk q (List.mem_of_mem_take h)
        · rw [List.mem_singleton] at h; exact h ▸ hk
      · exact hpk q (List.mem_of_mem_drop h)
  refine Ex.nil (Ex.cons rfl ?_)
  have hjn : ∀ {b : Bool}, (b && !(ints' js).isEmpty) = true → 0 < js.length := fun {b} h => by
    rw [Bool.and_eq_true] at h
    cases js with
    | nil => simp at h
    | cons _ _ => simp
  refine Ex.ifq (Etq.and2 (b := ((way : Int) == 7)) (c := !(ints' js).isEmpty) (Etq.cmp ?_) fun _ => Etq.cmp ?_) (fun hb => ?_) (fun _ => ?_)
  · walk_at "ev"; walk_at "ev"; exact (Cmp.eqI ⟨rfl, rfl⟩).d
  · walk_at "ev"; walk_at "ev"; walk_at "ev"; exact ⟨by rw [sizeLine_eq]; simp, (neT ⟨rfl, rfl⟩).d⟩
  · have hj0 := hjn hb
    refine Ex.cons rfl ?_
    refine Ex.assign O (.inl (by kernel_rfl)) ?_ rfl
    refine Ev.call O (by kernel_rfl) (g_law_next G) (fn_law_next G.hK).kp ?_
    walk_at "ev"; walk_at "ev"; walk_at "ev"
    refine Ev.call O (by kernel_rfl) (g_len G) Kp.builtin ?_
    walk_at "ev"; walk_at "ev"; walk_at "ev"
    refine Co.quiet (len_t (lt64 hjl6) ?_)
    walk_at "ev"
    rw [List.length_map]
    refine next_0 G (hA'.less (by omega)) (by omega) hc hj0 fun i hi => ?_
    refine Ex.cons rfl (Ex.ret ?_)
    walk_at "ev"; walk_at "ev"; walk_at "ev"; walk_at "ev"; walk_at "ev"; walk_at "ev"; walk_at "ev"; walk_at "ev"
    refine Ev.sub ?_
    walk_at "ev"
    refine Ev.slice (Eo.none_ (Eo.some_ ?_))
    walk_at "ev"
    refine Eo.none_ ?_
    refine slT_take hjl6 ?_
    walk_at "ev"
    walk_at "ev"
    walk_at "ev"
    walk_at "ev"
    refine Ev.call O (by kernel_rfl) (g_law_next G) (fn_law_next G.hK).kp ?_
    walk_at "ev"; walk_at "ev"; walk_at "ev"; walk_at "ev"; walk_at "ev"; walk_at "ev"
    refine Bin.addI ?_
    walk_at "ev"
    have em : ((many : Int) + 1) = ((many + 1 : Nat) : Int) := by push_cast; rfl
    rw [em]
    refine next_0 G (hA'.less (by omega)) (by omega) hc (by omega) fun v hv => ?_
    refine Bin.addI ?_
    walk_at "ev"
    refine ⟨by rw [sizeLine_eq]; simp, ?_⟩
    refine Bin.addT (by rw [List.length_take, sizeLine_eq]; simp; omega) ?_
    refine Ev.sub ?_
    walk_at "ev"
    refine Ev.slice (Eo.some_ ?_)
    walk_at "ev"
    walk_at "ev"
    walk_at "ev"
    refine Bin.addI ?_
    refine Eo.none_ (Eo.none_ ?_)
    refine slT_drop1 hjl6 ?_
    refine Bin.addT (by rw [List.length_append, List.length_take, List.length_drop, List.length_map, sizeLine_eq]; simp; omega) ?_
    walk_at "ev"
    refine ⟨by rw [sizeLine_eq]; simp, ?_⟩
    refine fin (by omega) ⟨c, ps, true, (ints' js).take i ++ [.int (1 + (v : Int))] ++ (ints' js).drop (i + 1), rfl, hco, by omega, hpl, hpk, ?_, fun q hq => ?_⟩
    · rw [List.length_append, List.length_append, List.length_take, List.length_drop, List.length_map]; simp; omega
    · rcases List.mem_append.mp hq with h | h
      · rcases List.mem_append.mp h with h | h
        · exact small_ints q (List.mem_of_mem_take h)
        · rw [List.mem_singleton] at h; exact h ▸ .int _
      · exact small_ints q (List.mem_of_mem_drop h)
  refine Ex.nil (Ex.cons rfl ?_)
  refine Ex.ifq (Etq.and2 (b := ((way : Int) == 8)) (c := !(ints' js).isEmpty) (Etq.cmp ?_) fun _ => Etq.cmp ?_) (fun hb => ?_) (fun _ => ?_)
  · walk_at "ev"; walk_at "ev"; exact (Cmp.eqI ⟨rfl, rfl⟩).d
  · walk_at "ev"; walk_at "ev"; walk_at "ev"; exact ⟨by rw [sizeLine_eq]; simp, (neT ⟨rfl, rfl⟩).d⟩
  · have hj0 := hjn hb
    refine Ex.cons rfl ?_
    refine Ex.assign O (.inl (by kernel_rfl)) ?_ rfl
    refine Ev.call O (by kernel_rfl) (g_law_next G) (fn_law_next G.hK).kp ?_
    walk_at "ev"; walk_at "ev"; walk_at "ev"
    refine Ev.call O (by kernel_rfl) (g_len G) Kp.builtin ?_
    walk_at "ev"; walk_at "ev"; walk_at "ev"
    refine Co.quiet (len_t (lt64 hjl6) ?_)
    walk_at "ev"
    rw [List.length_map]
    refine next_0 G (hA'.less (by omega)) (by omega) hc hj0 fun i hi => ?_
    have hget : (ints' js)[i]? = some (.int js[i]) := by rw [List.getElem?_map, List.getElem?_eq_getElem hi]; rfl
    refine Ex.cons rfl ?_
    refine Ex.assign O (.inl (by kernel_rfl)) ?_ rfl
    refine Ev.sub ?_
    walk_at "ev"
    walk_at "ev"
    walk_at "ev"
    walk_at "ev"
    walk_at "ev"
    refine Ev.sub ?_
    walk_at "ev"
    walk_at "ev"
    refine Sb.tupI (k := i) (lt64 hjl6) hget ?_
    refine Un.neg ?_
    walk_at "ev"
    walk_at "ev"
    walk_at "ev"
    refine Ev.call O (by kernel_rfl) (g_str G) Kp.type ?_
    walk_at "ev"
    walk_at "ev"
    refine Ev.sub ?_
    walk_at "ev"
    walk_at "ev"
    refine Sb.tupI (k := i) (lt64 hjl6) hget ?_
    walk_at "ev"
    refine Bin.modI (by decide) ?_
    walk_at "ev"
    obtain ⟨n9, hn9, e9⟩ := fmod_nat (x := js[i]) (w := 9) (by decide)
    have e9' : js[i].fmod 9 = (n9 : Int) := e9
    rw [e9']
    refine Co.quiet (str_int ?_ ?_)
    · exact log9 hn9
    have hstr := strOk9 hn9
    walk_at "ev"
    walk_at "ev"
    walk_at "ev"
    refine ⟨by rw [sizeLine_eq]; simp, ?_⟩
    refine Ev.call O (by kernel_rfl) (g_law_next G) (fn_law_next G.hK).kp ?_
    walk_at "ev"; walk_at "ev"; walk_at "ev"; walk_at "ev"; walk_at "ev"
    refine next_0 (w := 5) G (hA'.less (by omega)) (by omega) hc (by decide) fun k hk => ?_
    obtain ⟨od, hod, hods⟩ : ∃ od, [MV.int 0, .int (-js[i]), .bool true, .str (Str.ofString (toString (n9 : Int))), .none][k]? = some od ∧ Small od := by
      have : k = 0 ∨ k = 1 ∨ k = 2 ∨ k = 3 ∨ k = 4 := lt5 (by assumption)
      rcases this with rfl | rfl | rfl | rfl | rfl
      · exact ⟨_, rfl, .int _⟩
      · exact ⟨_, rfl, .int _⟩
      · exact ⟨_, rfl, .bool _⟩
      · exact ⟨_, rfl, .str _ hstr⟩
      · exact ⟨_, rfl, .none⟩
    refine Sb.tupI (k := k) (by rw [sizeLine_eq]; simp) hod ?_
    refine Ex.vars (("at", .int (i : Int)) :: ("odd", od) :: BnV a size many c ps js) (SubV.ofMap rfl) ?_
    refine Ex.cons rfl (Ex.ret ?_)
    walk_at "ev"; walk_at "ev"; walk_at "ev"; walk_at "ev"; walk_at "ev"; walk_at "ev"; walk_at "ev"; walk_at "ev"
    refine Ev.sub ?_
    walk_at "ev"
    refine Ev.slice (Eo.none_ (Eo.some_ ?_))
    walk_at "ev"
    refine Eo.none_ ?_
    refine slT_take hjl6 ?_
    walk_at "ev"
    walk_at "ev"
    walk_at "ev"
    walk_at "ev"
    refine ⟨by rw [sizeLine_eq]; simp, ?_⟩
    refine Bin.addT (by rw [List.length_take, sizeLine_eq]; simp; omega) ?_
    refine Ev.sub ?_
    walk_at "ev"
    refine Ev.slice (Eo.some_ ?_)
    walk_at "ev"
    walk_at "ev"
    walk_at "ev"
    refine Bin.addI ?_
    refine Eo.none_ (Eo.none_ ?_)
    refine slT_drop1 hjl6 ?_
    refine Bin.addT (by rw [List.length_append, List.length_take, List.length_drop, List.length_map, sizeLine_eq]; simp; omega) ?_
    walk_at "ev"
    refine ⟨by rw [sizeLine_eq]; simp, ?_⟩
    refine fin (by omega) ⟨c, ps, true, (ints' js).take i ++ [od] ++ (ints' js).drop (i + 1), rfl, hco, by omega, hpl, hpk, ?_, fun q hq => ?_⟩
    · rw [List.length_append, List.length_append, List.length_take, List.length_drop, List.length_map]; simp; omega
    · rcases List.mem_append.mp hq with h | h
      · rcases List.mem_append.mp h with h | h
        · exact small_ints q (List.mem_of_mem_take h)
        · rw [List.mem_singleton] at h; exact h ▸ hods
      · exact small_ints q (List.mem_of_mem_drop h)
  refine Ex.nil (Ex.cons rfl ?_)
  refine Ex.ifq (c := ((way : Int) == 9)) (Etq.cmp ?_) (fun _ => ?_) (fun _ => ?_)
  · walk_at "ev"; walk_at "ev"; exact (Cmp.eqI ⟨rfl, rfl⟩).d
  · refine Ex.cons rfl (Ex.ret ?_)
    walk_at "ev"; walk_at "ev"; walk_at "ev"; walk_at "ev"; walk_at "ev"; walk_at "ev"
    refine Ev.sub ?_
    walk_at "ev"
    refine Ev.slice (Eo.some_ ?_)
    walk_at "ev"
    refine Eo.none_ (Eo.none_ ?_)
    refine slT_drop (k := 1) hjl6 ?_
    walk_at "ev"
    refine ⟨by rw [sizeLine_eq]; simp, ?_⟩
    exact fin (by omega) ⟨c, ps, true, (ints' js).drop 1, rfl, hco, by omega, hpl, hpk, by rw [List.length_drop, List.length_map]; omega, fun q hq => small_ints q (List.mem_of_mem_drop hq)⟩
  refine Ex.nil (Ex.cons rfl ?_)
  refine Ex.ifq (c := ((way : Int) == 10)) (Etq.cmp ?_) (fun _ => ?_) (fun _ => ?_)
  · walk_at "ev"; walk_at "ev"; exact (Cmp.eqI ⟨rfl, rfl⟩).d
  · refine Ex.cons rfl (Ex.ret ?_)
    walk_at "ev"; walk_at "ev"; walk_at "ev"; walk_at "ev"; walk_at "ev"; walk_at "ev"
    refine Ev.call O (by kernel_rfl) (g_list G) Kp.type ?_
    walk_at "ev"; walk_at "ev"; walk_at "ev"
    refine Co.quiet (lst_tup (lt64 hjl6) ?_)
    walk_at "ev"
    refine ⟨by rw [sizeLine_eq]; simp, ?_⟩
    exact fin (by omega) ⟨c, ps, false, ints' js, rfl, hco, by omega, hpl, hpk, by rw [List.length_map]; omega, small_ints⟩
  refine Ex.nil (Ex.cons rfl ?_)
  refine Ex.ifq (c := ((way : Int) == 11)) (Etq.cmp ?_) (fun _ => ?_) (fun _ => ?_)
  · walk_at "ev"; walk_at "ev"; exact (Cmp.eqI ⟨rfl, rfl⟩).d
  · refine Ex.cons rfl (Ex.ret ?_)
    walk_at "ev"; walk_at "ev"; walk_at "ev"; walk_at "ev"; walk_at "ev"; walk_at "ev"
    refine ⟨by rw [sizeLine_eq]; simp, ?_⟩
    walk_at "ev"; walk_at "ev"; walk_at "ev"
    refine ⟨by rw [sizeLine_eq]; simp, ?_⟩
    exact fin (by omega) ⟨c, [], true, ints' js, rfl, hco, by omega, by simp, (fun _ h => nomatch h), by rw [List.length_map]; omega, small_ints⟩
  refine Ex.nil (Ex.cons rfl (Ex.ret ?_))
  walk_at "ev"; walk_at "ev"; walk_at "ev"; walk_at "ev"; walk_at "ev"; walk_at "ev"; walk_at "ev"; walk_at "ev"
  refine ⟨by rw [sizeLine_eq]; simp, ?_⟩
  exact fin (by omega) ⟨c, ps, true, ints' js, rfl, hco, by omega, hpl, hpk, by rw [List.length_map]; omega, small_ints⟩
end
end
end Mine

/- part SA -/
namespace Mine
noncomputable section
open PySem PySem.W PySem.Calls PyProof.Rows

theorem putL_len (name : Str) (hsh : Int) (key v : Value) : ∀ es : List DictEntry, (putL name hsh key v es).length ≤ es.length + 1
  | [] => Nat.le_refl _
  | e :: r => by
    have := putL_len name hsh key v r
    unfold putL
    split <;> simp only [List.length_cons] <;> omega
/-- one line of the making: a field is stored -/
theorem init_step {M : Program} {w : World} {A : Around} {E : Value → Shared → Prop} {Q : Flow → Shared → Prop} {s : Shared} {K : Frag} {env : Env} {h₀ : Heap} {m : Str → Option Value} {a d C : Addr} {es : List DictEntry} {n : Nat} {v : Value} {body rest : List Stmt} {name x : Str} {p1 p2 p3 p4 : Pos}
    (e : body = .Assign [.Attribute (.Name "self" p1) name p2] (.Name x p3) p4 :: rest) (hk : env.scope.kind = .function) (h1 : env.kindOf x = some .local) (h2 : env.kindOf "self" = some .local)
    (F : Fr h₀ env.locals s.heap m) (X₀ : K.In h₀) (N : News h₀ env.locals s.heap [(a, instObj C d), (d, PySem.W.dictOf es n)]) (hda : a ≠ d) (hx : m x = some v) (hs : m "self" = some (.ref a))
    (k1 : findIn K (.ref C) "__setattr__" = some (some (.builtin "object.__setattr__"))) (k2 : plainOver K C = true) (k3 : takerIn K C name = some none) (k4 : hasDictIn K C = true) (hl : (getL name es).isSome = true) (hz : es.length ≤ 100)
    (hsw : swapsWith (.Name x p3) (some (.Attribute (.Name "self" p1) name p2)) p4.line env = pure false)
    (k : ∀ h' tk hsh t, Fr h₀ env.locals h' m → News h₀ env.locals h' [(a, instObj C d), (d, PySem.W.dictOf (putL name hsh (.str name t) v es) (putN name es n))] → wpAny (model M w) A (execs rest env) Q E { s with heap := h', toks := tk })
    (hd1 : (x == ("__debug__" : Str)) = false := by decide) : wpAny (model M w) A (execs body env) Q E s := by
  subst e
  refine wpAny_execs_cons (plainObj_wpAny_Assign_Attribute (wpAny_Name (wpAny_loadName_local hk h1 F.ns hx ?_) hd1) hsw)
  refine wpAny_Name (wpAny_loadName_local hk h2 F.ns hs ?_)
  have hlen : (putL name (PyData.keyHash w.params name) (.str name (s.toks + 1)) v es).length ≤ 1000 := Nat.le_trans (putL_len _ _ _ _ es) (by omega)
  exact set_dict F X₀ N (InstAt.of_news N (List.mem_cons_self) (List.mem_cons_of_mem _ List.mem_cons_self)) rfl k1 k2 k3 k4 hl rfl (.tail hda (.head fun p hp => nomatch hp)) hlen fun h' F' N' => k h' _ _ _ F' N'

noncomputable def initPs : List Str := ["self", "bank", "names", "assertions", "assumptions"]
section
variable {B : Bs} {A : Around} {δ : Ds} {n : Nat} {l : List MV}
theorem kp_cls (G : Ok B) : Kp B (.ref 176) := fun M h k => keeps_K (K := HK B.w.params) (by kernel_rfl) h fun a o e => k a o (B.KX a o (by rw [G.hK]; exact e))
theorem co_make (G : Ok B) (hA : AOk 2 A) : Co B A (.ref 176) [.none, .lst l, .tup [], .tup []] δ fun r δ' => r = .inst l ∧ δ' = δ := by
  intro X vs rl H tk
  obtain ⟨v1, r1, e1, h1, v2, r2, e2, h2, v3, r3, e3, h3, v4, r4, e4, h4, e5⟩ := rl
  subst e1 e2 e3 e4
  cases e5
  have K1 : (HK B.w.params).In X.h := by have := X.inK; rwa [G.hK] at this
  refine wpAny_call (make_core (makes_of K1 (by kernel_rfl)) (looks_findIn K1 (name := "__init__") (r := some (.ref 64)) (by kernel_rfl)) (fun self => bind_fn K1 self (by kernel_rfl)) (.inl rfl) ?_)
  have F := fn_init G.hK
  obtain ⟨o, fd, ho, hd, hbody, hsc, hgl, hclo, hbl, hcd, hbind⟩ := F.ex
  have h2k : ∀ b o, X.h.get? b = some o → ((X.h.push emptyDict).push (instObj 176 X.h.objs.size)).get? b = some o := fun b o e => Heap.get?_push_of_some _ (Heap.get?_push_of_some _ e)
  have hcd' : ((X.h.push emptyDict).push (instObj 176 X.h.objs.size)).CodeRec fd.code fd.qualname := let ⟨c, o, vs, t, e1, e2, r⟩ := hcd; ⟨c, o, vs, t, e1, h2k _ _ (X.keepsB _ _ e2), r⟩
  have hw : Code.weight (Code.builtin "type.__call__" { pos := [Value.ref 176, v1, v2, v3, v4] }) = 1 := by kernel_rfl
  have hroom : (A.under (Code.builtin "type.__call__" { pos := [Value.ref 176, v1, v2, v3, v4] })).depth < recursionLimit := by
    have := hA.hd
    show A.depth + Code.weight _ < _
    rw [hw]; omega
  let bs : List (Str × Value) := initPs.zip [Value.ref (X.h.objs.size + 1), v1, v2, v3, v4]
  have hfst : bs.map (·.1) = initPs := rfl
  have hloc : ∀ x ∈ initPs, fd.scope.names.lookup x = some .local := fun x hx => by
    rw [hsc]
    have : (initPs.all fun x => decide (s_init.names.lookup x = some .local)) = true := by kernel_rfl
    exact of_decide_eq_true (List.all_eq_true.mp this x hx)
  refine codeAny_call_cells (binds := bs) hroom (h2k _ _ (X.keepsB _ _ ho)) hd (B.T.nolimit.keeps fun a o e => h2k _ _ (X.keepsB _ _ e)) hcd' hbody (hbind _ rfl) hclo
    (fun x hx => .inl (hloc _ (by rw [← hfst]; exact List.mem_map_of_mem hx))) (fun s₁ x => ?_) (by rw [hsc]; kernel_rfl) (by rw [hsc]; kernel_rfl) (by rw [hsc]; kernel_rfl)
  have hsz : ((X.h.push emptyDict).push (instObj 176 X.h.objs.size)).objs.size = X.h.objs.size + 2 := by rw [Heap.size_push, Heap.size_push]
  have hd0 : ((X.h.push emptyDict).push (instObj 176 X.h.objs.size)).get? X.h.objs.size = some emptyDict := Heap.get?_push_of_some _ (Heap.get?_push_size _ rfl)
  have hi0 : ((X.h.push emptyDict).push (instObj 176 X.h.objs.size)).get? (X.h.objs.size + 1) = some (instObj 176 X.h.objs.size) := by
    have := Heap.get?_push_size (X.h.push emptyDict) (o := instObj 176 X.h.objs.size) rfl
    rwa [Heap.size_push] at this
  have henv : callEnvC fd ((X.h.push emptyDict).push (instObj 176 X.h.objs.size)).objs.size 64 = fEnv fd.scope (X.h.objs.size + 2) (fd.qualname ++ ".<locals>.") 64 fd.code := by unfold callEnvC newEnv; rw [hgl, hbl, hsz]
  dsimp only at x ⊢
  rw [henv] at x ⊢
  obtain ⟨h₁, tk₁, rfl, hk₁⟩ := x.done
  have hL : h₁.Ns (X.h.objs.size + 2) (bindL (fEnv fd.scope (X.h.objs.size + 2) (fd.qualname ++ ".<locals>.") 64 fd.code).kindOf bs fun _ => none) := x.toInCall.ns
  have at_ : ∀ y v, (y, v) ∈ bs → bindL (fEnv fd.scope (X.h.objs.size + 2) (fd.qualname ++ ".<locals>.") 64 fd.code).kindOf bs (fun _ => none) y = some v := fun y v hy =>
    bindL_at (hloc y (by rw [← hfst]; exact List.mem_map_of_mem hy)) (by rw [hfst]; decide) hy
  generalize bindL (fEnv fd.scope (X.h.objs.size + 2) (fd.qualname ++ ".<locals>.") 64 fd.code).kindOf bs (fun _ => none) = mm at hL at_
  have F1 : Fr X.h (X.h.objs.size + 2) h₁ mm := ⟨hL, fun b o e => hk₁ b o (h2k b o e), by omega⟩
  have N1 : News X.h (X.h.objs.size + 2) h₁ [(X.h.objs.size + 1, instObj 176 X.h.objs.size), (X.h.objs.size, PySem.W.dictOf [] 0)] := by
    intro p hp
    have none_ : ∀ b, X.h.objs.size ≤ b → X.h.get? b = none := fun b hb => by
      cases e : X.h.get? b with
      | none => rfl
      | some o => exact absurd (Heap.lt_size e) (Nat.not_lt.mpr hb)
    rcases List.mem_cons.mp hp with rfl | hp
    · exact ⟨hk₁ _ _ hi0, fun e => by simp at e, none_ _ (Nat.le_succ _)⟩
    · rcases List.mem_cons.mp hp with rfl | hp
      · exact ⟨hk₁ _ _ hd0, fun e => by simp at e, none_ _ (Nat.le_refl _)⟩
      · cases hp
  have kl : ∀ y ∈ initPs, (fEnv fd.scope (X.h.objs.size + 2) (fd.qualname ++ ".<locals>.") 64 fd.code).kindOf y = some .local := hloc
  have ki : (fEnv fd.scope (X.h.objs.size + 2) (fd.qualname ++ ".<locals>.") 64 fd.code).scope.kind = .function := by show fd.scope.kind = _; rw [hsc]; kernel_rfl
  have hne : (X.h.objs.size + 1 : Addr) ≠ X.h.objs.size := Nat.succ_ne_self _
  have s1 : findIn (HK B.w.params) (.ref 176) "__setattr__" = some (some (.builtin "object.__setattr__")) := by kernel_rfl
  have s2 : plainOver (HK B.w.params) 176 = true := by kernel_rfl
  have s3 : hasDictIn (HK B.w.params) 176 = true := by kernel_rfl
  refine init_step (K := HK B.w.params) (name := "bank") (x := "bank") (v := v1) rfl ki (kl _ (by decide)) (kl _ (by decide)) F1 K1 N1 hne (at_ _ _ (by simp [bs, initPs])) (at_ _ _ (by simp [bs, initPs])) s1 s2 (by kernel_rfl) s3 rfl (by simp) rfl fun h' tk2 hs2 t2 F2 N2 => ?_
  refine init_step (K := HK B.w.params) (name := "names") (x := "names") (v := v2) rfl ki (kl _ (by decide)) (kl _ (by decide)) F2 K1 N2 hne (at_ _ _ (by simp [bs, initPs])) (at_ _ _ (by simp [bs, initPs])) s1 s2 (by kernel_rfl) s3 rfl (by simp [putL]) rfl fun h' tk3 hs3 t3 F3 N3 => ?_
  refine init_step (K := HK B.w.params) (name := "assertions") (x := "assertions") (v := v3) rfl ki (kl _ (by decide)) (kl _ (by decide)) F3 K1 N3 hne (at_ _ _ (by simp [bs, initPs])) (at_ _ _ (by simp [bs, initPs])) s1 s2 (by kernel_rfl) s3 rfl (Nat.le_trans (putL_len _ _ _ _ _) (Nat.le_trans (Nat.succ_le_succ (putL_len _ _ _ _ _)) (by decide))) rfl fun h' tk4 hs4 t4 F4 N4 => ?_
  refine init_step (K := HK B.w.params) (name := "assumptions") (x := "assumptions") (v := v4) rfl ki (kl _ (by decide)) (kl _ (by decide)) F4 K1 N4 hne (at_ _ _ (by simp [bs, initPs])) (at_ _ _ (by simp [bs, initPs])) s1 s2 (by kernel_rfl) s3 rfl (Nat.le_trans (putL_len _ _ _ _ _) (Nat.le_trans (Nat.succ_le_succ (putL_len _ _ _ _ _)) (Nat.le_trans (Nat.succ_le_succ (Nat.succ_le_succ (putL_len _ _ _ _ _))) (by decide)))) rfl fun h5 tk5 hs5 t5 F5 N5 => ?_
  refine wpAny_execs_nil ⟨rfl, ?_⟩
  obtain ⟨b, vs, kk, rfl, hgb, rlb⟩ := h2
  have hDat := (N5 _ (List.mem_cons_of_mem _ List.mem_cons_self)).1
  have hIat := (N5 _ List.mem_cons_self).1
  dsimp only at hDat hIat
  let Y0 : Wd B := X.more h5 F5.keep
  have gD : Y0.g X.h.objs.size = none := X.gsize
  let Y1 : Wd B := Y0.fix X.h.objs.size _ hDat gD
  have gI0 : X.g (X.h.objs.size + 1) = none := by
    cases e : X.g (X.h.objs.size + 1) with
    | none => rfl
    | some o => exact absurd (Heap.lt_size (X.sub _ _ e)) (Nat.not_lt.mpr (Nat.le_succ _))
  have gI : Y1.g (X.h.objs.size + 1) = none := (if_neg hne).trans gI0
  let Y2 : Wd B := Y1.fix (X.h.objs.size + 1) _ hIat gI
  have hI0 : X.h.get? (X.h.objs.size + 1) = none := by
    cases e : X.h.get? (X.h.objs.size + 1) with
    | none => rfl
    | some o => exact absurd (Heap.lt_size e) (Nat.not_lt.mpr (Nat.le_succ _))
  have l0 : Le (dom δ) X Y0 := Wd.more_le X _
  have l2 : Le (dom δ) X Y2 := (l0.fix (no_at_size _)).fix hI0
  have hDict : Y2.g X.h.objs.size = some _ := (if_neg fun e => hne e.symm).trans (Wd.fix_at Y0)
  have l3 : Le [] X Y2 := ((Wd.more_le X (h' := h5) (hk := F5.keep) []).fix (no_at_size _)).fix hI0
  refine ⟨Y2, tk5, rfl, l2, .inst l, δ, ⟨rfl, rfl⟩, rfl, ⟨X.h.objs.size + 1, X.h.objs.size, _, _, b, vs, kk, rfl, ?_, hDict, rfl, ⟨rfl, rfl, rfl⟩, l3.g _ _ hgb, l3.repL rlb⟩, H.here l3⟩
  rw [G.cl]
  exact Wd.fix_at Y1
end
end
end Mine

/- part SB -/
namespace Mine
noncomputable section
open PySem PySem.W PySem.Calls PyProof.Rows

/-- no literal stands with its counterpart -/
noncomputable def NT (c : List Int) : Prop := ∀ x ∈ c, -x ∉ c
theorem pair_inj {c : List Int} (h : (c.map Int.natAbs).Pairwise (· < ·)) : ∀ {x y : Int}, x ∈ c → y ∈ c → x.natAbs = y.natAbs → x = y := by
  induction c with
  | nil => intro x y hx; cases hx
  | cons z r ih =>
    rw [List.map_cons, List.pairwise_cons] at h
    intro x y hx hy e
    have key : ∀ w ∈ r, z.natAbs < w.natAbs := fun w hw => h.1 _ (List.mem_map_of_mem hw)
    rcases List.mem_cons.mp hx with q | q
    · rcases List.mem_cons.mp hy with q' | q'
      · rw [q, q']
      · have := key y q'; rw [q] at e; omega
    · rcases List.mem_cons.mp hy with q' | q'
      · have := key x q; rw [q'] at e; omega
      · exact ih h.2 q q' e
theorem U5_iff {n : Nat} : n ∈ U5 ↔ 1 ≤ n ∧ n ≤ 5 := by
  simp only [List.mem_cons, List.not_mem_nil, or_false]
  omega
theorem ClauseOk.nt {many : Nat} {c : List Int} (h : ClauseOk many c) : NT c := fun x hx hn => by
  have := pair_inj h.1 hx hn (by omega)
  have := h.2 x hx
  omega
theorem ClauseOk.lit {many : Nat} {c : List Int} (h : ClauseOk many c) (hm : many ≤ 4) : LitOk c := fun x hx => by
  have := h.2 x hx
  exact U5_iff.mpr ⟨this.1, by omega⟩
theorem mem_addI {here : List Int} {x y : Int} : y ∈ addI here x ↔ y ∈ here ∨ y = x := by
  unfold addI
  split
  · exact ⟨.inl, fun h => h.elim id fun e => e ▸ (by assumption)⟩
  · rw [List.mem_append, List.mem_singleton]
theorem mem_addAll {c : List Int} : ∀ {here : List Int} {y : Int}, y ∈ addAll here c ↔ y ∈ here ∨ y ∈ c := by
  induction c with
  | nil => intro here y; simp [addAll]
  | cons x r ih =>
    intro here y
    show y ∈ addAll (addI here x) r ↔ _
    rw [ih, mem_addI, List.mem_cons, or_assoc]
theorem loopH_err {k : Int} : ∀ {r g : List Int}, NT r → (∃ x ∈ r, x ≠ -k ∧ -x ∈ g) → loopH k g r = .error "tautology"
  | [], g, _, ⟨_, h, _⟩ => nomatch h
  | z :: r, g, hr, ⟨x, hx, h1, h2⟩ => by
    have hr' : NT r := fun y hy hn => hr y (List.mem_cons_of_mem _ hy) (List.mem_cons_of_mem _ hn)
    rw [loopH]
    by_cases hz : z ≠ -k
    · rw [if_pos hz]
      by_cases hg : -z ∈ g
      · rw [if_pos hg]
      · rw [if_neg hg]
        rcases List.mem_cons.mp hx with rfl | hx
        · exact absurd h2 hg
        · exact loopH_err hr' ⟨x, hx, h1, mem_addI.mpr (.inl h2)⟩
    · rw [if_neg hz]
      rcases List.mem_cons.mp hx with rfl | hx
      · exact absurd h1 hz
      · exact loopH_err hr' ⟨x, hx, h1, h2⟩
theorem loopH_fine {k : Int} : ∀ {r g : List Int}, NT r → (¬ ∃ x ∈ r, x ≠ -k ∧ -x ∈ g) → ∃ g', loopH k g r = .ok g'
  | [], g, _, _ => ⟨g, rfl⟩
  | z :: r, g, hr, h => by
    have hr' : NT r := fun y hy hn => hr y (List.mem_cons_of_mem _ hy) (List.mem_cons_of_mem _ hn)
    rw [loopH]
    by_cases hz : z ≠ -k
    · rw [if_pos hz, if_neg fun q => h ⟨z, List.mem_cons_self, hz, q⟩]
      refine loopH_fine hr' fun ⟨x, hx, h1, h2⟩ => ?_
      rcases mem_addI.mp h2 with q | q
      · exact h ⟨x, List.mem_cons_of_mem _ hx, h1, q⟩
      · exact hr x (List.mem_cons_of_mem _ hx) (by rw [q]; exact List.mem_cons_self)
    · rw [if_neg hz]
      exact loopH_fine hr' fun ⟨x, hx, h1, h2⟩ => h ⟨x, List.mem_cons_of_mem _ hx, h1, h2⟩
theorem loopH_mem {k : Int} : ∀ {r g g' : List Int}, loopH k g r = .ok g' → ∀ y, y ∈ g' ↔ y ∈ g ∨ (y ∈ r ∧ y ≠ -k)
  | [], g, g', e, y => by cases e; simp
  | z :: r, g, g', e, y => by
    rw [loopH] at e
    by_cases hz : z ≠ -k
    · rw [if_pos hz] at e
      split at e
      · cases e
      · rw [loopH_mem e, mem_addI, List.mem_cons, or_assoc]
        refine or_congr Iff.rfl ⟨?_, ?_⟩
        · rintro (q | q)
          · exact ⟨.inl q, q ▸ hz⟩
          · exact ⟨.inr q.1, q.2⟩
        · rintro ⟨q | q, h⟩
          · exact .inl q
          · exact .inr ⟨q, h⟩
    · rw [if_neg hz] at e
      rw [loopH_mem e, List.mem_cons]
      refine or_congr Iff.rfl ⟨fun q => ⟨.inr q.1, q.2⟩, ?_⟩
      rintro ⟨q | q, h⟩
      · exact absurd (q ▸ h) hz
      · exact ⟨q, h⟩
theorem memI_ups {c : List Int} (hc : LitOk c) {p : Int} (hp : 1 ≤ p) : memI (ups c) p = decide (p ∈ c) := by
  rw [Bool.eq_iff_iff, memI_iff, decide_eq_true_iff]
  refine ⟨fun ⟨x, hx, e⟩ => ?_, fun h => ⟨p.toNat, ?_, by omega⟩⟩
  · unfold ups at hx
    rw [mem_cn, decide_eq_true_iff] at hx
    exact e ▸ hx.2
  · unfold ups
    rw [mem_cn, decide_eq_true_iff]
    have h1 := hc p h
    have h2 : p.natAbs = p.toNat := by omega
    refine ⟨h2 ▸ h1, ?_⟩
    have : ((p.toNat : Nat) : Int) = p := by omega
    rw [this]; exact h
theorem memI_downs {c : List Int} (hc : LitOk c) {p : Int} (hp : 1 ≤ p) : memI (downs c) p = decide (-p ∈ c) := by
  rw [Bool.eq_iff_iff, memI_iff, decide_eq_true_iff]
  refine ⟨fun ⟨x, hx, e⟩ => ?_, fun h => ⟨p.toNat, ?_, by omega⟩⟩
  · unfold downs at hx
    rw [mem_cn, decide_eq_true_iff] at hx
    exact e ▸ hx.2
  · unfold downs
    rw [mem_cn, decide_eq_true_iff]
    have h1 := hc (-p) h
    have h2 : (-p).natAbs = p.toNat := by omega
    refine ⟨h2 ▸ h1, ?_⟩
    have : ((p.toNat : Nat) : Int) = p := by omega
    rw [this]; exact h
theorem cn_ext {p q : Nat → Bool} (h : ∀ x ∈ U5, p x = q x) : cn p = cn q := by
  unfold cn
  exact List.filter_congr h
theorem mem_ups {c : List Int} {n : Nat} : n ∈ ups c ↔ n ∈ U5 ∧ (n : Int) ∈ c := by
  unfold ups; rw [mem_cn, decide_eq_true_iff]
theorem mem_downs {c : List Int} {n : Nat} : n ∈ downs c ↔ n ∈ U5 ∧ -(n : Int) ∈ c := by
  unfold downs; rw [mem_cn, decide_eq_true_iff]
/-- the sets of a link's result -/
theorem link_ups {here c h' : List Int} {k p : Int} (hp : 1 ≤ p) (hk : k = p ∨ k = -p) (h : ∀ y, y ∈ h' ↔ (y ∈ here ∨ y ∈ c) ∧ y ≠ k ∧ y ≠ -k) : dif (uni (ups here) (ups c)) [p.toNat] = ups h' := by
  unfold dif ups
  refine cn_ext fun x hx => ?_
  have hx' := U5_iff.mp hx
  rw [Bool.eq_iff_iff, Bool.and_eq_true, decide_eq_true_iff, Bool.not_eq_true', decide_eq_false_iff_not, decide_eq_true_iff, h, List.mem_singleton]
  unfold uni
  rw [mem_cn, Bool.or_eq_true, decide_eq_true_iff, decide_eq_true_iff, mem_cn, mem_cn, decide_eq_true_iff, decide_eq_true_iff]
  constructor
  · rintro ⟨⟨_, q⟩, hn⟩
    exact ⟨q.imp (·.2) (·.2), by omega, by omega⟩
  · rintro ⟨q, h1, h2⟩
    exact ⟨⟨hx, q.imp (⟨hx, ·⟩) (⟨hx, ·⟩)⟩, by omega⟩
theorem link_downs {here c h' : List Int} {k p : Int} (hp : 1 ≤ p) (hk : k = p ∨ k = -p) (h : ∀ y, y ∈ h' ↔ (y ∈ here ∨ y ∈ c) ∧ y ≠ k ∧ y ≠ -k) : dif (uni (downs here) (downs c)) [p.toNat] = downs h' := by
  unfold dif downs
  refine cn_ext fun x hx => ?_
  have hx' := U5_iff.mp hx
  rw [Bool.eq_iff_iff, Bool.and_eq_true, decide_eq_true_iff, Bool.not_eq_true', decide_eq_false_iff_not, decide_eq_true_iff, h, List.mem_singleton]
  unfold uni
  rw [mem_cn, Bool.or_eq_true, decide_eq_true_iff, decide_eq_true_iff, mem_cn, mem_cn, decide_eq_true_iff, decide_eq_true_iff]
  constructor
  · rintro ⟨⟨_, q⟩, hn⟩
    exact ⟨q.imp (·.2) (·.2), by omega, by omega⟩
  · rintro ⟨q, h1, h2⟩
    exact ⟨⟨hx, q.imp (⟨hx, ·⟩) (⟨hx, ·⟩)⟩, by omega⟩
/-- a link whose kept literal is k -/
theorem step_core {here c : List Int} {k p : Int} (hh : HOk here) (hn : NT here) (hc : LitOk c) (hcn : NT c) (hp : 1 ≤ p) (hk : k = p ∨ k = -p) (h1 : k ∈ here) (h2 : -k ∈ c) :
    (loopH k (here.filter fun y => decide (y ≠ k)) c = .error "tautology" ∧ (itx (dif (uni (ups here) (ups c)) [p.toNat]) (dif (uni (downs here) (downs c)) [p.toNat])).isEmpty = false) ∨
    ∃ h', loopH k (here.filter fun y => decide (y ≠ k)) c = .ok h' ∧ (itx (dif (uni (ups here) (ups c)) [p.toNat]) (dif (uni (downs here) (downs c)) [p.toNat])).isEmpty = true ∧
      dif (uni (ups here) (ups c)) [p.toNat] = ups h' ∧ dif (uni (downs here) (downs c)) [p.toNat] = downs h' ∧ NT h' := by
  have mf : ∀ y, y ∈ here.filter (fun y => decide (y ≠ k)) ↔ y ∈ here ∧ y ≠ k := fun y => by rw [List.mem_filter, decide_eq_true_iff]
  -- what would be there, were there no clash
  let h0 : List Int := (here ++ c).filter fun y => decide (y ≠ k) && decide (y ≠ -k)
  have m0 : ∀ y, y ∈ h0 ↔ (y ∈ here ∨ y ∈ c) ∧ y ≠ k ∧ y ≠ -k := fun y => by
    show y ∈ List.filter _ _ ↔ _
    rw [List.mem_filter, List.mem_append, Bool.and_eq_true, decide_eq_true_iff, decide_eq_true_iff]
  have eu := link_ups (here := here) (c := c) hp hk m0
  have ed := link_downs (here := here) (c := c) hp hk m0
  have clash : (itx (ups h0) (downs h0)).isEmpty = false ↔ ∃ x ∈ c, x ≠ -k ∧ -x ∈ here.filter fun y => decide (y ≠ k) := by
    rw [← Bool.not_eq_true, List.isEmpty_iff]
    constructor
    · intro hne
      obtain ⟨n, hn'⟩ := List.exists_mem_of_ne_nil _ hne
      unfold itx at hn'
      rw [mem_cn, Bool.and_eq_true, decide_eq_true_iff, decide_eq_true_iff, mem_ups, mem_downs, m0, m0] at hn'
      obtain ⟨hU, ⟨_, h3, h4, h5⟩, _, h6, h7, h8⟩ := hn'
      rcases h3 with h3 | h3 <;> rcases h6 with h6 | h6
      · exact absurd h6 (hn _ h3)
      · exact ⟨-(n : Int), h6, by omega, (mf _).mpr ⟨by rw [Int.neg_neg]; exact h3, by omega⟩⟩
      · exact ⟨(n : Int), h3, by omega, (mf _).mpr ⟨h6, by omega⟩⟩
      · exact absurd h6 (hcn _ h3)
    · rintro ⟨x, hx, h3, h4⟩ hem
      obtain ⟨h4, h5⟩ := (mf _).mp h4
      have hxk : x ≠ k := fun e => hcn x hx (e ▸ h2)
      have hU := hc x hx
      have hU' := U5_iff.mp hU
      have hin : x.natAbs ∈ itx (ups h0) (downs h0) := by
        unfold itx
        rw [mem_cn, Bool.and_eq_true, decide_eq_true_iff, decide_eq_true_iff, mem_ups, mem_downs, m0, m0]
        refine ⟨hU, ⟨hU, ?_, by omega, by omega⟩, hU, ?_, by omega, by omega⟩
        · rcases Int.lt_or_le x 0 with q | q
          · have : ((x.natAbs : Nat) : Int) = -x := by omega
            rw [this]; exact .inl h4
          · have : ((x.natAbs : Nat) : Int) = x := by omega
            rw [this]; exact .inr hx
        · rcases Int.lt_or_le x 0 with q | q
          · have : -((x.natAbs : Nat) : Int) = x := by omega
            rw [this]; exact .inr hx
          · have : -((x.natAbs : Nat) : Int) = -x := by omega
            rw [this]; exact .inl h4
      rw [hem] at hin
      cases hin
  rw [eu, ed]
  by_cases hcl : ∃ x ∈ c, x ≠ -k ∧ -x ∈ here.filter fun y => decide (y ≠ k)
  · exact .inl ⟨loopH_err hcn hcl, clash.mpr hcl⟩
  · obtain ⟨h', e⟩ := loopH_fine (g := here.filter fun y => decide (y ≠ k)) hcn hcl
    have m' : ∀ y, y ∈ h' ↔ y ∈ h0 := fun y => by
      rw [loopH_mem e, mf, m0]
      constructor
      · rintro (⟨q1, q2⟩ | ⟨q1, q2⟩)
        · exact ⟨.inl q1, q2, fun z => hn k h1 (z ▸ q1)⟩
        · exact ⟨.inr q1, fun z => hcn k (z ▸ q1) h2, q2⟩
      · rintro ⟨q | q, q2, q3⟩
        · exact .inl ⟨q, q2⟩
        · exact .inr ⟨q, q3⟩
    refine .inr ⟨h', e, ?_, ?_, ?_, fun y hy hny => ?_⟩
    · rw [← Bool.not_eq_false]; exact fun q => hcl (clash.mp q)
    · unfold ups; exact cn_ext fun x _ => by rw [Bool.eq_iff_iff, decide_eq_true_iff, decide_eq_true_iff, m']
    · unfold downs; exact cn_ext fun x _ => by rw [Bool.eq_iff_iff, decide_eq_true_iff, decide_eq_true_iff, m']
    · rw [loopH_mem e, mf] at hy hny
      rcases hy with ⟨q1, q2⟩ | ⟨q1, q2⟩ <;> rcases hny with ⟨q3, q4⟩ | ⟨q3, q4⟩
      · exact hn y q1 q3
      · exact hcl ⟨-y, q3, q4, (mf _).mpr ⟨by rw [Int.neg_neg]; exact q1, by rw [Int.neg_neg]; exact q2⟩⟩
      · exact hcl ⟨y, q1, q2, (mf _).mpr ⟨q3, q4⟩⟩
      · exact hcn y q1 q3
/-- what a link tells, by one dict and by two sets -/
noncomputable def SameR (r : Except String (List Int)) (q : Except String (List Nat × List Nat)) : Prop := match r, q with
  | .error w, .error w' => w = w' ∧ w ≠ ""
  | .ok h, .ok (u, d) => u = ups h ∧ d = downs h ∧ HOk h ∧ NT h
  | _, _ => False
theorem step_same {here c : List Int} {p : Int} (hh : HOk here) (hn : NT here) (hc : LitOk c) (hcn : NT c) (hp : 1 ≤ p) : SameR (stepH here p c) (linkS (ups here) (downs here) p c) := by
  have hok : ∀ {h'}, stepH here p c = .ok h' → HOk h' := fun e => stepH_ok hh hc e
  unfold linkS
  rw [memI_ups hh.2 hp, memI_downs hc hp, memI_downs hh.2 hp, memI_ups hc hp]
  by_cases c1 : p ∈ here ∧ -p ∈ c
  · have es : stepH here p c = loopH p (here.filter fun y => decide (y ≠ p)) c := by unfold stepH; rw [if_pos c1]
    rw [es] at hok ⊢
    have cond : (decide (p ∈ here) && decide (-p ∈ c) || decide (-p ∈ here) && decide (p ∈ c)) = true := by simp [c1]
    rw [if_pos cond]
    rcases step_core hh hn hc hcn hp (.inl rfl) c1.1 c1.2 with ⟨e1, e2⟩ | ⟨h', e1, e2, e3, e4, e5⟩
    · rw [e1, e2]; exact ⟨rfl, by decide⟩
    · rw [e2, e1, e3, e4]
      exact ⟨rfl, rfl, hok e1, e5⟩
  · by_cases c2 : -p ∈ here ∧ p ∈ c
    · have es : stepH here p c = loopH (-p) (here.filter fun y => decide (y ≠ -p)) c := by unfold stepH; rw [if_neg c1, if_pos c2]
      rw [es] at hok ⊢
      have cond : (decide (p ∈ here) && decide (-p ∈ c) || decide (-p ∈ here) && decide (p ∈ c)) = true := by simp [c2]
      rw [if_pos cond]
      rcases step_core hh hn hc hcn hp (.inr rfl) c2.1 (by rw [Int.neg_neg]; exact c2.2) with ⟨e1, e2⟩ | ⟨h', e1, e2, e3, e4, e5⟩
      · rw [e1, e2]; exact ⟨rfl, by decide⟩
      · rw [e2, e1, e3, e4]
        exact ⟨rfl, rfl, hok e1, e5⟩
    · have es : stepH here p c = .error "pivot" := by unfold stepH; rw [if_neg c1, if_neg c2]
      rw [es]
      have cond : ¬ (decide (p ∈ here) && decide (-p ∈ c) || decide (-p ∈ here) && decide (p ∈ c)) = true := by
        rw [Bool.or_eq_true, Bool.and_eq_true, Bool.and_eq_true, decide_eq_true_iff, decide_eq_true_iff, decide_eq_true_iff, decide_eq_true_iff]
        exact fun h => h.elim c1 c2
      rw [if_neg cond]
      exact ⟨rfl, by decide⟩
theorem chain_same : ∀ {L : List (Int × List Int)} {here : List Int}, HOk here → NT here → (∀ q ∈ L, 1 ≤ q.1 ∧ LitOk q.2 ∧ NT q.2) → SameR (chainH here L) (chainS (ups here, downs here) L)
  | [], here, hh, hn, _ => ⟨rfl, rfl, hh, hn⟩
  | (p, c) :: r, here, hh, hn, hL => by
    obtain ⟨hp, hc, hcn⟩ := hL _ List.mem_cons_self
    have hs := step_same hh hn hc hcn hp
    rw [chainH, chainS]
    cases e1 : stepH here p c with
    | error w =>
      cases e2 : linkS (ups here) (downs here) p c with
      | error w' => rw [e1, e2] at hs; exact hs
      | ok s => rw [e1, e2] at hs; exact hs.elim
    | ok h' =>
      cases e2 : linkS (ups here) (downs here) p c with
      | error w' => rw [e1, e2] at hs; exact hs.elim
      | ok s =>
        obtain ⟨u, d⟩ := s
        rw [e1, e2] at hs
        obtain ⟨rfl, rfl, hh', hn'⟩ := hs
        exact chain_same hh' hn' fun q hq => hL q (List.mem_cons_of_mem _ hq)
theorem nodup_map_of {α β : Type} {f : α → β} (hf : ∀ a b, f a = f b → a = b) : ∀ {l : List α}, l.Nodup → (l.map f).Nodup
  | [], _ => .nil
  | a :: l, h => by
    rw [List.nodup_cons] at h
    rw [List.map_cons, List.nodup_cons]
    refine ⟨fun q => ?_, nodup_map_of hf h.2⟩
    obtain ⟨b, hb, e⟩ := List.mem_map.mp q
    exact h.1 (hf _ _ e ▸ hb)
theorem perm_of_mem : ∀ {a b : List Int}, a.Nodup → b.Nodup → (∀ x, x ∈ a ↔ x ∈ b) → a.Perm b
  | [], [], _, _, _ => .nil
  | [], y :: b, _, _, h => absurd ((h y).mpr List.mem_cons_self) List.not_mem_nil
  | x :: a, b, ha, hb, h => by
    rw [List.nodup_cons] at ha
    have hx : x ∈ b := (h x).mp List.mem_cons_self
    have hp := List.perm_cons_erase hx
    have hbx : (x :: b.erase x).Nodup := hp.nodup_iff.mp hb
    rw [List.nodup_cons] at hbx
    refine ((perm_of_mem ha.2 hbx.2 fun y => ?_).cons x).trans hp.symm
    have h1 := h y
    rw [hp.mem_iff, List.mem_cons, List.mem_cons] at h1
    constructor
    · intro hy
      rcases h1.mp (.inr hy) with q | q
      · exact absurd (q ▸ hy) ha.1
      · exact q
    · intro hy
      rcases h1.mpr (.inr hy) with q | q
      · exact absurd (q ▸ hy) hbx.1
      · exact q
theorem lits_here {h : List Int} (hh : HOk h) : (lits (ups h) (downs h)).Perm h := by
  have nu : (ups h).Nodup := subs_nodup _ (cn_subs _)
  have nd : (downs h).Nodup := subs_nodup _ (cn_subs _)
  refine perm_of_mem ?_ hh.1 fun x => ?_
  · unfold lits
    rw [List.nodup_append]
    refine ⟨nodup_map_of (fun a b e => by omega) nu, nodup_map_of (fun a b e => by omega) nd, fun a ha b hb e => ?_⟩
    obtain ⟨n, hn, rfl⟩ := List.mem_map.mp ha
    obtain ⟨m, hm, rfl⟩ := List.mem_map.mp hb
    have h1 := U5_iff.mp (mem_ups.mp hn).1
    have h2 := U5_iff.mp (mem_downs.mp hm).1
    omega
  · unfold lits
    rw [List.mem_append, List.mem_map, List.mem_map]
    constructor
    · rintro (⟨n, hn, rfl⟩ | ⟨n, hn, rfl⟩)
      · exact (mem_ups.mp hn).2
      · exact (mem_downs.mp hn).2
    · intro hx
      have hU := hh.2 x hx
      rcases Int.lt_or_le x 0 with q | q
      · refine .inr ⟨x.natAbs, mem_downs.mpr ⟨hU, ?_⟩, by omega⟩
        have : -((x.natAbs : Nat) : Int) = x := by omega
        rw [this]; exact hx
      · refine .inl ⟨x.natAbs, mem_ups.mpr ⟨hU, ?_⟩, by omega⟩
        have : ((x.natAbs : Nat) : Int) = x := by omega
        rw [this]; exact hx

/-- the clauses of the steps -/
noncomputable def CsOk (many : Nat) (cs : List (List Int)) : Prop := many ≤ 4 ∧ ∀ c ∈ cs, ClauseOk many c
theorem CsOk.at_ {many : Nat} {cs : List (List Int)} (h : CsOk many cs) {k : Nat} (hk : k < cs.length) : ClauseOk many (cs.getD k []) := by
  rw [List.getD_eq_getElem?_getD, List.getElem?_eq_getElem hk]
  exact h.2 _ (List.getElem_mem hk)
theorem start_ok {many : Nat} {c : List Int} (hc : ClauseOk many c) (hm : many ≤ 4) : HOk (addAll [] c) ∧ NT (addAll [] c) ∧ ups (addAll [] c) = ups c ∧ downs (addAll [] c) = downs c := by
  have mm : ∀ y, y ∈ addAll [] c ↔ y ∈ c := fun y => by rw [mem_addAll]; simp
  refine ⟨addAll_ok ⟨.nil, fun _ h => nomatch h⟩ (hc.lit hm), fun x hx hn => hc.nt x ((mm x).mp hx) ((mm _).mp hn), ?_, ?_⟩
  · unfold ups; exact cn_ext fun x _ => by rw [Bool.eq_iff_iff, decide_eq_true_iff, decide_eq_true_iff, mm]
  · unfold downs; exact cn_ext fun x _ => by rw [Bool.eq_iff_iff, decide_eq_true_iff, decide_eq_true_iff, mm]
theorem zip_ok {many : Nat} {cs : List (List Int)} (h : CsOk many cs) {l : List MV} {pr : List Nat} (hl : l.any badN = false) (hp : ∀ k ∈ pr, k < cs.length) :
    ∀ q ∈ (l.map numI).zip (pr.map fun k => cs.getD k []), 1 ≤ q.1 ∧ ClauseOk many q.2 := fun q hq => by
  have h1 := (List.of_mem_zip hq).1
  have h2 := (List.of_mem_zip hq).2
  obtain ⟨m, hm, e1⟩ := List.mem_map.mp h1
  obtain ⟨k, hk, e2⟩ := List.mem_map.mp h2
  rw [← e1, ← e2]
  refine ⟨?_, h.at_ (hp k hk)⟩
  have hb : badN m = false := by
    have := List.any_eq_false.mp hl m hm
    simpa using this
  cases m <;> first | (simp [badN] at hb; done) | skip
  rename_i i
  have hb' : ¬ (i < 1) := of_decide_eq_false hb
  show 1 ≤ i
  omega
/-- resolving by one dict and by two sets tell the same -/
theorem res_word {many : Nat} {cs : List (List Int)} (h : CsOk many cs) {clause : List Int} {ps : List Nat} {t : Bool} {l : List MV} (hp : ∀ k ∈ ps, k < cs.length) : resS cs clause ps t l = wordS cs clause ps t l := by
  cases ps with
  | nil => rfl
  | cons p0 pr =>
    unfold resS wordS
    dsimp only
    split
    · cases hb : l.any badN with
      | true => rfl
      | false =>
        simp only [Bool.false_eq_true, if_false]
        have h0 := h.at_ (hp p0 List.mem_cons_self)
        obtain ⟨s1, s2, s3, s4⟩ := start_ok h0 h.1
        have hz := zip_ok h hb fun k hk => hp k (List.mem_cons_of_mem _ hk)
        have hs := chain_same s1 s2 (L := (l.map numI).zip (pr.map fun k => cs.getD k [])) fun q hq => ⟨(hz q hq).1, (hz q hq).2.lit h.1, (hz q hq).2.nt⟩
        rw [s3, s4] at hs
        cases e1 : chainH (addAll [] (cs.getD p0 [])) ((l.map numI).zip (pr.map fun k => cs.getD k [])) with
        | error w =>
          cases e2 : chainS (ups (cs.getD p0 []), downs (cs.getD p0 [])) ((l.map numI).zip (pr.map fun k => cs.getD k [])) with
          | error w' => rw [e1, e2] at hs; exact hs.1
          | ok s => rw [e1, e2] at hs; exact hs.elim
        | ok h' =>
          cases e2 : chainS (ups (cs.getD p0 []), downs (cs.getD p0 [])) ((l.map numI).zip (pr.map fun k => cs.getD k [])) with
          | error w' => rw [e1, e2] at hs; exact hs.elim
          | ok s =>
            obtain ⟨u, d⟩ := s
            rw [e1, e2] at hs
            obtain ⟨rfl, rfl, hh', _⟩ := hs
            dsimp only
            rw [isort_congr (lits_here hh')]
            by_cases q : isort h' = isort clause
            · rw [if_pos q, if_pos q.symm]
            · rw [if_neg q, if_neg fun z => q z.symm]
    · rfl
end
end Mine

/- part SC -/
namespace Mine
noncomputable section
open PySem PySem.W PySem.Calls PyProof.Rows

/-- the clause holds in the world -/
noncomputable def Holds1 (w : List Int) (c : List Int) : Prop := ∃ x ∈ c, satB w x = true
theorem sat_not {w : List Int} {k : Int} (h : satB w k = true) : satB w (-k) = false := by
  unfold satB at h ⊢
  rw [decide_eq_true_iff] at h
  rw [decide_eq_false_iff_not, Int.natAbs_neg, Int.mul_neg]
  omega
theorem loop_sound {w : List Int} {k : Int} {here c g' : List Int} (e : loopH k (here.filter fun y => decide (y ≠ k)) c = .ok g') (h1 : Holds1 w here) (h2 : Holds1 w c) : Holds1 w g' := by
  obtain ⟨x, hx, sx⟩ := h1
  obtain ⟨y, hy, sy⟩ := h2
  by_cases q : x = k
  · refine ⟨y, (loopH_mem e y).mpr (.inr ⟨hy, fun z => ?_⟩), sy⟩
    have := sat_not sx
    rw [q, ← z, sy] at this
    cases this
  · exact ⟨x, (loopH_mem e x).mpr (.inl (List.mem_filter.mpr ⟨hx, decide_eq_true q⟩)), sx⟩
theorem step_sound {w : List Int} {here c g' : List Int} {p : Int} (e : stepH here p c = .ok g') (h1 : Holds1 w here) (h2 : Holds1 w c) : Holds1 w g' := by
  unfold stepH at e
  split at e
  · exact loop_sound e h1 h2
  · split at e
    · exact loop_sound e h1 h2
    · cases e
theorem chain_sound {w : List Int} : ∀ {L : List (Int × List Int)} {here g' : List Int}, chainH here L = .ok g' → Holds1 w here → (∀ q ∈ L, Holds1 w q.2) → Holds1 w g'
  | [], here, g', e, h, _ => by cases e; exact h
  | (p, c) :: r, here, g', e, h, hL => by
    rw [chainH] at e
    cases e1 : stepH here p c with
    | error x => rw [e1] at e; cases e
    | ok h' =>
      rw [e1] at e
      exact chain_sound e (step_sound e1 h (hL _ List.mem_cons_self)) fun q hq => hL q (List.mem_cons_of_mem _ hq)
theorem satW_holds {w c : List Int} : (satW w c).isEmpty = false ↔ Holds1 w c := by
  unfold satW Holds1
  constructor
  · intro h
    cases hf : c.filter (satB w) with
    | nil => rw [hf] at h; cases h
    | cons y r =>
      have hy : y ∈ c.filter (satB w) := by rw [hf]; exact List.mem_cons_self
      exact ⟨y, (List.mem_filter.mp hy).1, (List.mem_filter.mp hy).2⟩
  · rintro ⟨x, hx, sx⟩
    have hx' : x ∈ c.filter (satB w) := List.mem_filter.mpr ⟨hx, sx⟩
    cases hf : c.filter (satB w) with
    | nil => rw [hf] at hx'; cases hx'
    | cons y r => rfl
/-- what is told "" -/
theorem word_empty {many : Nat} {cs : List (List Int)} (h : CsOk many cs) {clause : List Int} {ps : List Nat} {t : Bool} {l : List MV} (hp : ∀ k ∈ ps, k < cs.length) (hw : wordS cs clause ps t l = "") :
    ∃ p0 pr g, ps = p0 :: pr ∧ chainH (addAll [] (cs.getD p0 [])) ((l.map numI).zip (pr.map fun k => cs.getD k [])) = .ok g ∧ (∀ x, x ∈ clause ↔ x ∈ g) ∧ ∀ x ∈ g, x.natAbs ≤ many := by
  rw [← res_word h hp] at hw
  cases ps with
  | nil => exact absurd hw (by show ¬ ("premise" = ""); decide)
  | cons p0 pr =>
    unfold resS at hw
    dsimp only at hw
    split at hw
    · cases hb : l.any badN with
      | true => rw [hb] at hw; exact absurd hw (by show ¬ ("note" = ""); decide)
      | false =>
        rw [hb] at hw
        simp only [Bool.false_eq_true, if_false] at hw
        have h0 := h.at_ (hp p0 List.mem_cons_self)
        obtain ⟨s1, s2, s3, s4⟩ := start_ok h0 h.1
        have hz := zip_ok h hb fun k hk => hp k (List.mem_cons_of_mem _ hk)
        have hs := chain_same s1 s2 (L := (l.map numI).zip (pr.map fun k => cs.getD k [])) fun q hq => ⟨(hz q hq).1, (hz q hq).2.lit h.1, (hz q hq).2.nt⟩
        cases e1 : chainH (addAll [] (cs.getD p0 [])) ((l.map numI).zip (pr.map fun k => cs.getD k [])) with
        | error w =>
          rw [e1] at hw hs
          dsimp only at hw
          cases e2 : chainS (ups (addAll [] (cs.getD p0 [])), downs (addAll [] (cs.getD p0 []))) ((l.map numI).zip (pr.map fun k => cs.getD k [])) with
          | error w' => rw [e2] at hs; exact absurd hw hs.2
          | ok s => rw [e2] at hs; exact hs.elim
        | ok g =>
          rw [e1] at hw
          dsimp only at hw
          split at hw
          · rename_i hi
            refine ⟨p0, pr, g, rfl, e1, fun x => ?_, ?_⟩
            · rw [← (isort_perm clause).mem_iff, ← (isort_perm g).mem_iff, hi]
            · -- all that is left comes from the clauses
              have memc : ∀ {L : List (Int × List Int)} {here g : List Int}, chainH here L = .ok g → (∀ x ∈ here, x.natAbs ≤ many) → (∀ q ∈ L, ∀ x ∈ q.2, x.natAbs ≤ many) → ∀ x ∈ g, x.natAbs ≤ many := by
                intro L
                induction L with
                | nil => intro here g e hh _; cases e; exact hh
                | cons q r ih =>
                  obtain ⟨p, c⟩ := q
                  intro here g e hh hL
                  rw [chainH] at e
                  cases e1 : stepH here p c with
                  | error x => rw [e1] at e; cases e
                  | ok h' =>
                    rw [e1] at e
                    refine ih e (fun x hx => ?_) fun q hq => hL q (List.mem_cons_of_mem _ hq)
                    have hc := hL _ List.mem_cons_self
                    have go : ∀ {k : Int}, loopH k (here.filter fun y => decide (y ≠ k)) c = .ok h' → x.natAbs ≤ many := fun e => by
                      rcases (loopH_mem e x).mp hx with q | q
                      · exact hh x (List.mem_filter.mp q).1
                      · exact hc x q.1
                    unfold stepH at e1
                    split at e1
                    · exact go e1
                    · split at e1
                      · exact go e1
                      · cases e1
              exact memc e1 (fun x hx => by
                rw [mem_addAll] at hx
                rcases hx with q | q
                · cases q
                · exact (h0.2 x q).2) fun q hq x hx => ((hz q hq).2.2 x hx).2
          · exact absurd hw (by decide)
    · exact absurd hw (by show ¬ ("note" = ""); decide)
/-- what is let holds wherever the premises do -/
theorem word_follows {many : Nat} {cs : List (List Int)} (h : CsOk many cs) {clause : List Int} {ps : List Nat} {t : Bool} {l : List MV} (hp : ∀ k ∈ ps, k < cs.length) (hw : wordS cs clause ps t l = "") :
    followsS cs clause ps many = true ∧ ∀ x ∈ clause, x.natAbs ≤ many := by
  obtain ⟨p0, pr, g, rfl, e, hm, hb⟩ := word_empty h hp hw
  refine ⟨?_, fun x hx => hb x ((hm x).mp hx)⟩
  unfold followsS
  rw [List.all_eq_true]
  intro n _
  unfold followS
  rw [Bool.not_eq_true']
  cases hs : (satW (worldW n many) clause).isEmpty with
  | false => rw [Bool.and_false]
  | true =>
    rw [Bool.and_true, Bool.not_eq_false']
    cases ha : (p0 :: pr).any fun k => (satW (worldW n many) (cs.getD k [])).isEmpty with
    | true => rfl
    | false =>
      exfalso
      have hall : ∀ k ∈ p0 :: pr, Holds1 (worldW n many) (cs.getD k []) := fun k hk => by
        have := List.any_eq_false.mp ha k hk
        exact satW_holds.mp (by simpa using this)
      have h0 := hall p0 List.mem_cons_self
      have hstart : Holds1 (worldW n many) (addAll [] (cs.getD p0 [])) := let ⟨x, hx, sx⟩ := h0; ⟨x, mem_addAll.mpr (.inr hx), sx⟩
      obtain ⟨x, hx, sx⟩ := chain_sound e hstart fun q hq => by
        obtain ⟨k, hk, e2⟩ := List.mem_map.mp (List.of_mem_zip hq).2
        rw [← e2]
        exact hall k (List.mem_cons_of_mem _ hk)
      have := satW_holds.mpr ⟨x, (hm x).mpr hx, sx⟩
      rw [hs] at this
      cases this
/-- heights -/
theorem clauseS_iff {many : Nat} : ∀ {c : List Int} {a : Int}, clauseS (many + 1) a c = true ↔ (∀ h ∈ hts c, a < h ∧ h ≤ (many : Int)) ∧ (hts c).Pairwise (· < ·)
  | [], a => by simp [clauseS, hts]
  | x :: r, a => by
    rw [clauseS, Bool.and_eq_true, Bool.and_eq_true, decide_eq_true_iff, decide_eq_true_iff, clauseS_iff (c := r)]
    show _ ↔ (∀ h ∈ absI x :: hts r, _) ∧ (absI x :: hts r).Pairwise _
    rw [List.pairwise_cons]
    constructor
    · rintro ⟨⟨h1, h2⟩, h3, h4⟩
      refine ⟨fun h hh => ?_, fun h hh => (h3 h hh).1, h4⟩
      rcases List.mem_cons.mp hh with rfl | hh
      · exact ⟨h1, by push_cast at h2; omega⟩
      · exact ⟨by have := (h3 h hh).1; omega, (h3 h hh).2⟩
    · rintro ⟨h1, h2, h3⟩
      have := h1 _ List.mem_cons_self
      exact ⟨⟨this.1, by push_cast; omega⟩, fun h hh => ⟨h2 h hh, (h1 h (List.mem_cons_of_mem _ hh)).2⟩, h3⟩
theorem okH_iff {many : Nat} {c : List Int} (hc : LitOk c) : okH many c = clauseS (many + 1) 0 c := by
  have hU : ∀ h ∈ hts c, ∃ n : Nat, n ∈ U5 ∧ h = (n : Int) := fun h hh => by
    rw [hts_nat] at hh
    obtain ⟨n, hn, rfl⟩ := List.mem_map.mp hh
    obtain ⟨x, hx, rfl⟩ := List.mem_map.mp hn
    exact ⟨_, hc x hx, rfl⟩
  have nd : ((hset c).map fun (x : Nat) => (x : Int)).Nodup := nodup_map_of (fun a b e => by omega) (subs_nodup _ (cn_subs _))
  have ms : ∀ x, x ∈ (hset c).map (fun (x : Nat) => (x : Int)) ↔ x ∈ hts c := fun x => by
    rw [List.mem_map]
    constructor
    · rintro ⟨n, hn, rfl⟩
      unfold hset at hn
      rw [mem_cn, decide_eq_true_iff] at hn
      exact hn.2
    · intro hx
      obtain ⟨n, hn, rfl⟩ := hU x hx
      exact ⟨n, by unfold hset; rw [mem_cn, decide_eq_true_iff]; exact ⟨hn, hx⟩, rfl⟩
  have key : hts c = isort ((hset c).map fun (x : Nat) => (x : Int)) ↔ (hts c).Pairwise (· < ·) := by
    constructor
    · intro e
      rw [e]
      have hn : (isort ((hset c).map fun (x : Nat) => (x : Int))).Pairwise (fun a b => a ≠ b) := (isort_perm _).nodup_iff.mpr nd
      exact List.Pairwise.imp (R := fun a b => a ≤ b ∧ a ≠ b) (fun {a b} h => by have h1 := h.1; have h2 := h.2; omega) ((isort_sorted _).and hn)
    · intro hp
      have hn : (hts c).Nodup := hp.imp fun h => by omega
      have hperm : (hts c).Perm (isort ((hset c).map fun (x : Nat) => (x : Int))) := (perm_of_mem hn nd fun x => (ms x).symm).trans (isort_perm _).symm
      exact perm_sorted_eq hperm (hp.imp fun h => by omega) (isort_sorted _)
  rw [Bool.eq_iff_iff, clauseS_iff]
  unfold okH
  rw [Bool.and_eq_true, decide_eq_true_iff, key, List.all_eq_true, and_comm]
  refine and_congr ?_ Iff.rfl
  exact forall_congr' fun h => imp_congr Iff.rfl (by rw [Bool.and_eq_true, decide_eq_true_iff, decide_eq_true_iff])
theorem natI_lt {cs : List (List Int)} {pms : List MV} (h : pms.any (badP cs.length) = false) : ∀ k ∈ natI pms, k < cs.length := fun k hk => by
  unfold natI at hk
  obtain ⟨m, hm, rfl⟩ := List.mem_map.mp hk
  have hb : badP cs.length m = false := by
    have := List.any_eq_false.mp h m hm
    simpa using this
  unfold badP at hb
  rw [Bool.or_eq_false_iff, Bool.not_eq_false', Bool.not_eq_false', Bool.and_eq_true, decide_eq_true_iff, decide_eq_true_iff] at hb
  omega
theorem fault_word {many : Nat} {cs : List (List Int)} (h : CsOk many cs) {clause : List Int} (hc : LitOk clause) {pms : List MV} {t : Bool} {l : List MV} : faultS (many + 1) cs true clause pms t l = stepWordS many cs clause pms t l := by
  unfold faultS stepWordS
  rw [okH_iff hc, Bool.true_and]
  split
  · rfl
  · cases hb : pms.any (badP cs.length) with
    | true => rfl
    | false =>
      simp only [Bool.false_eq_true, if_false]
      exact res_word h (natI_lt hb)
theorem natI_nats (ps : List Nat) : natI (ps.map fun (k : Nat) => MV.int (k : Int)) = ps := by
  unfold natI
  rw [List.map_map]
  have : ((fun m => (numI m).toNat) ∘ fun (k : Nat) => MV.int (k : Int)) = id := by funext k; rfl
  rw [this, List.map_id]
end
end Mine

/- part SD -/
namespace Mine
noncomputable section
open PySem PySem.W PySem.Calls PyProof.Rows

local macro_rules | `(tactic| walk_at "ev") => `(tactic| first
  | with_reducible refine Ev.int ?_
  | with_reducible refine Ev.str ?_
  | with_reducible refine Ev.bool ?_
  | with_reducible refine Ev.none_ ?_
  | ((with_reducible refine' Ev.name (by assumption) ?evn ?_); (case evn => rfl))
  | ((with_reducible refine' Ev.globT (by assumption) (by kernel_rfl) ?evg ?_); (case evg => first | exact g_int (by assumption) | exact g_bool (by assumption) | exact g_str (by assumption) | exact g_tuple (by assumption)))
  | with_reducible refine Ev.bin ?_
  | with_reducible refine Ev.un ?_
  | with_reducible refine Ev.ifExp ?_
  | ((with_reducible refine Ev.cmp ?_ ?evm); (case evm => with_unfolding_all rfl))
  | with_reducible refine Ev.tuple ?_
  | with_reducible refine Ev.list ?_
  | with_reducible refine El.nil ?_
  | ((with_reducible refine El.cons ?_ ?elh); (case elh => rfl)))


theorem ofString_empty {w : String} : (Str.ofString w == ("" : Str)) = decide (w = "") := by
  rw [Bool.eq_iff_iff, decide_eq_true_iff, beq_iff_eq]
  constructor
  · intro e
    have e' : Str.ofString w = Str.ofString "" := e
    rw [Str.ofString_eq_toList, Str.ofString_eq_toList] at e'
    have h := congrArg (fun s : Str => s.cps.toList) e'
    have h2 : w.toList = [] := by simpa using h
    exact String.toList_inj.mp (by rw [h2]; rfl)
  · intro e; subst e; rfl
section
variable {B : Bs} {A : Around} {δ : Ds}
theorem stepsX_nil (cs : List (List Int)) : stepsX cs [] = stepsV cs := by unfold stepsX stepsV; rw [List.append_nil]
noncomputable abbrev TdV (nl : List MV) (cs : List (List Int)) (many : Nat) (c : List Int) (ps : List Nat) (t : Bool) (l : List MV) : Vs := [("judge", .inst nl), ("steps", stepsV cs), ("many", .int (many : Int)), ("clause", .tup (ints' c)), ("premises", natsV ps), ("note", seqV t l)]
set_option maxHeartbeats 4000000 in
theorem co_law_is_told (G : Ok B) (hA : AOk 5 A) {nl : List MV} {cs : List (List Int)} {many : Nat} {chain : MV} (hcs : StepsOk cs) (hk : CsOk many cs) (hnl : nl.length = many + 1) (hch : ChainOk cs.length chain) :
    Co B A (.ref 250) [.inst nl, stepsV cs, chain, .int (many : Int)] δ fun r δ' => r = .bool true ∧ δ' = δ := by
  obtain ⟨c, ps, t, l, rfl, hco, hcl, hpl, hpk, hl, hsm⟩ := hch
  have hm4 := hk.1
  have hcl6 : c.length < 64 := by omega
  have hpl6 : ps.length < 64 := by omega
  have hl6 : l.length < 64 := by omega
  have hsl : (cs.map stepV).length ≤ sizeLine := by rw [List.length_map]; exact lt64 hcs.1
  refine Co.fn0 (fn_law_is_told G.hK) hA (by kernel_rfl) fun A' L qual code hA' O hC => ?_
  refine Ex.cons rfl ?_
  refine Ex.assignTup (xs := ["clause", "premises", "note"]) O hA'.hh rfl (fun x hx => ?_) ?_ rfl rfl
  · simp only [List.mem_cons, List.not_mem_nil, or_false] at hx
    rcases hx with rfl | rfl | rfl <;> exact .inl (by kernel_rfl)
  walk_at "ev"
  refine ⟨_, rfl, rfl, ?_⟩
  refine Ex.cons rfl ?_
  refine Ex.assign O (.inl (by kernel_rfl)) ?_ rfl
  refine Ev.call O (by kernel_rfl) (g_law_word G) (fn_law_word G.hK).kp ?_
  walk_at "ev"; walk_at "ev"; walk_at "ev"; walk_at "ev"; walk_at "ev"; walk_at "ev"; walk_at "ev"; walk_at "ev"; walk_at "ev"
  refine Co.fnKeep (co_law_word G (hA'.less (by omega)) hcs hcl6 hpl6 hpk hl6 hsm) fun r hr => ?_
  subst hr
  refine Ex.vars (("due", .str (Str.ofString (wordS cs c ps t l))) :: TdV nl cs many c ps t l) (SubV.ofMap rfl) ?_
  refine Ex.cons rfl ?_
  refine Ex.ifq (c := false) (Etq.cmp ?_) (fun hb => nomatch hb) (fun _ => ?_)
  · refine Ev.meth (fn_resolve_fault G.hK).kp ?_
    walk_at "ev"
    refine ⟨Gm.inst G (by kernel_rfl) (by kernel_rfl) (.inr (.inl rfl)), ?_⟩
    walk_at "ev"; walk_at "ev"; walk_at "ev"; walk_at "ev"; walk_at "ev"; walk_at "ev"; walk_at "ev"; walk_at "ev"; walk_at "ev"
    rw [← stepsX_nil]
    refine Co.fnKeep (co_resolve_fault G (hA'.less (by omega)) (ext := []) hcs (by simp) hcl6 hpl6 hpk hl6 hsm) fun r hr => ?_
    subst hr
    walk_at "ev"
    refine (Cmp.neS ⟨rfl, ?_⟩).d
    rw [res_word hk hpk, bne_self_eq_false]
  refine Ex.nil (Ex.cons rfl ?_)
  refine Ex.ifq (c := false) ((Etq.and2 (b := decide (wordS cs c ps t l = "")) (c := false) (Etq.cmp ?_) fun hb => Etq.not (b := true) ?_).mono fun b δ' ⟨e1, e2⟩ => ⟨e1, by rw [e2, Bool.and_false]⟩) (fun hb => nomatch hb) (fun _ => ?_)
  · walk_at "ev"; walk_at "ev"
    exact (Cmp.eqS ⟨rfl, ofString_empty⟩).d
  · have hw := word_follows hk hpk (of_decide_eq_true hb)
    refine Et.value ?_
    refine Ev.call O (by kernel_rfl) (g_law_follows G) (fn_law_follows G.hK).kp ?_
    walk_at "ev"; walk_at "ev"; walk_at "ev"; walk_at "ev"; walk_at "ev"; walk_at "ev"; walk_at "ev"; walk_at "ev"; walk_at "ev"
    refine Co.fnKeep (co_law_follows G (hA'.less (by omega)) hm4 hcs (fun c' h' x hx => ((hk.2 c' h').2 x hx).2) hcl6 hw.2 hpl6 hpk) fun r hr => ?_
    subst hr
    exact ⟨_, rfl, rfl, hw.1⟩
  refine Ex.nil (Ex.cons rfl ?_)
  refine Ex.assign O (.inl (by kernel_rfl)) ?_ rfl
  walk_at "ev"; walk_at "ev"; walk_at "ev"; walk_at "ev"; walk_at "ev"; walk_at "ev"; walk_at "ev"; walk_at "ev"; walk_at "ev"; walk_at "ev"; walk_at "ev"; walk_at "ev"; walk_at "ev"; walk_at "ev"
  refine ⟨by rw [sizeLine_eq]; simp, ?_⟩
  walk_at "ev"
  refine ⟨by rw [sizeLine_eq]; simp, ?_⟩
  refine Bin.addL (by rw [List.length_map, sizeLine_eq]; have := hcs.1; simp; omega) ?_
  refine Ex.vars (("rows", stepsX cs [rowV true c (ps.map fun (k : Nat) => MV.int (k : Int)) t l]) :: TdV nl cs many c ps t l) (SubV.ofMap rfl) ?_
  refine Ex.cons rfl (Ex.ret ?_)
  walk_at "ev"
  refine Ev.meth (fn_fault_of G.hK).kp ?_
  walk_at "ev"
  refine ⟨Gm.inst G (by kernel_rfl) (by kernel_rfl) (.inr (.inr rfl)), ?_⟩
  walk_at "ev"; walk_at "ev"; walk_at "ev"
  refine Ev.call O (by kernel_rfl) (g_len G) Kp.builtin ?_
  walk_at "ev"; walk_at "ev"; walk_at "ev"
  refine Co.quiet (len_l hsl ?_)
  walk_at "ev"
  rw [List.length_map]
  have hpm : (ps.map fun (k : Nat) => MV.int (k : Int)).length < 64 := by rw [List.length_map]; omega
  have hps : ∀ m ∈ ps.map fun (k : Nat) => MV.int (k : Int), Small m := fun m hm => by obtain ⟨k, _, rfl⟩ := List.mem_map.mp hm; exact .int _
  refine Co.fnKeep (co_fault_of G (hA'.less (by omega)) hcs (by omega) hcl6 hpm hps hl6 hsm) fun r hr => ?_
  subst hr
  refine Ev.call O (by kernel_rfl) (g_law_step_word G) (fn_law_step_word G.hK).kp ?_
  walk_at "ev"; walk_at "ev"; walk_at "ev"; walk_at "ev"; walk_at "ev"; walk_at "ev"; walk_at "ev"; walk_at "ev"; walk_at "ev"; walk_at "ev"; walk_at "ev"
  refine Co.fnKeep (co_law_step_word G hA' hcs hco hcl6 hpm hps hl6 hsm) fun r hr => ?_
  subst hr
  refine (Cmp.eqS ?_).d
  rw [hnl, fault_word hk hco, beq_self_eq_true]
  rfl
end
end
end Mine

/- part SE -/
namespace Mine
noncomputable section
open PySem PySem.W PySem.Calls PyProof.Rows

local macro_rules | `(tactic| walk_at "ev") => `(tactic| first
  | with_reducible refine Ev.int ?_
  | with_reducible refine Ev.str ?_
  | with_reducible refine Ev.bool ?_
  | with_reducible refine Ev.none_ ?_
  | ((with_reducible refine' Ev.name (by assumption) ?evn ?_); (case evn => rfl))
  | ((with_reducible refine' Ev.globT (by assumption) (by kernel_rfl) ?evg ?_); (case evg => first | exact g_int (by assumption) | exact g_bool (by assumption) | exact g_str (by assumption) | exact g_tuple (by assumption)))
  | with_reducible refine Ev.bin ?_
  | with_reducible refine Ev.un ?_
  | with_reducible refine Ev.ifExp ?_
  | ((with_reducible refine Ev.cmp ?_ ?evm); (case evm => with_unfolding_all rfl))
  | with_reducible refine Ev.tuple ?_
  | with_reducible refine Ev.list ?_
  | with_reducible refine El.nil ?_
  | ((with_reducible refine El.cons ?_ ?elh); (case elh => rfl)))


section
variable {B : Bs} {A : Around} {δ : Ds}
noncomputable abbrev AhJ (V : Vs) (r : List MV) (ρ' : Vs) (δ' : Ds) : Prop := δ' = [] ∧ (∀ m ∈ r, Small m) ∧ SubV V ρ'
set_option maxHeartbeats 4000000 in
theorem co_law_ahead (G : Ok B) (hA : AOk 5 A) {nl : List MV} {cs : List (List Int)} {many : Nat} {chain : MV} (hcs : StepsOk cs) (hk : CsOk many cs) (hnl : nl.length = many + 1) (hch : ChainOk cs.length chain) :
    Co B A (.ref 257) [.inst nl, stepsV cs, chain, .int (many : Int)] δ fun r δ' => r = .bool true ∧ δ' = δ := by
  obtain ⟨c, ps, t, l, rfl, hco, hcl, hpl, hpk, hl, hsm⟩ := hch
  have hm4 := hk.1
  have hcl6 : c.length < 64 := by omega
  have hpl6 : ps.length < 64 := by omega
  have hl6 : l.length < 64 := by omega
  have hsl : (cs.map stepV).length ≤ sizeLine := by rw [List.length_map]; exact lt64 hcs.1
  have hpm : (ps.map fun (k : Nat) => MV.int (k : Int)).length < 64 := by rw [List.length_map]; omega
  have hps : ∀ m ∈ ps.map fun (k : Nat) => MV.int (k : Int), Small m := fun m hm => by obtain ⟨k, _, rfl⟩ := List.mem_map.mp hm; exact .int _
  refine Co.fn0 (fn_law_ahead G.hK) hA (by kernel_rfl) fun A' L qual code hA' O hC => ?_
  refine Ex.cons rfl ?_
  refine Ex.assignTup (xs := ["clause", "premises", "note"]) O hA'.hh rfl (fun x hx => ?_) ?_ rfl rfl
  · simp only [List.mem_cons, List.not_mem_nil, or_false] at hx
    rcases hx with rfl | rfl | rfl <;> exact .inl (by kernel_rfl)
  walk_at "ev"
  refine ⟨_, rfl, rfl, ?_⟩
  refine Ex.vars (TdV nl cs many c ps t l) (SubV.ofMap rfl) ?_
  refine Ex.cons rfl ?_
  refine Ex.for_ (x := "odd") O hA'.hh (.inl (by kernel_rfl)) ?_
  walk_at "ev"; walk_at "ev"
  refine Ev.call O (by kernel_rfl) (g_len G) Kp.builtin ?_
  walk_at "ev"; walk_at "ev"; walk_at "ev"
  refine Co.quiet (len_l hsl ?_)
  walk_at "ev"; walk_at "ev"; walk_at "ev"
  refine Un.neg ?_
  walk_at "ev"; walk_at "ev"; walk_at "ev"
  refine ⟨by rw [sizeLine_eq]; simp, ?_⟩
  rw [List.length_map]
  refine ⟨_, It.tup hA'.hh, fun items e => ?_⟩
  subst e
  show ForOk B A' _ _ _ _ ([MV.int (cs.length : Int), MV.int (-1), MV.bool true].map id) _ _
  refine ForOk.run id (AhJ (TdV nl cs many c ps t l)) ?_ ?_ _ _ _
      ⟨rfl, fun m hm => ?_, (SubV.ofMap rfl)⟩
  · rintro odd r ρ δ ⟨rfl, hr, hV⟩
    have hodd : Small odd := hr _ List.mem_cons_self
    have hr' : ∀ m ∈ r, Small m := fun m hm => hr m (List.mem_cons_of_mem _ hm)
    refine Ex.vars (("odd", odd) :: TdV nl cs many c ps t l) (SubV.set1 hV (by kernel_rfl)) ?_
    have hlate : ((ps.map fun (k : Nat) => MV.int (k : Int)).dropLast ++ [odd]).length < 64 := by rw [List.length_append, List.length_dropLast, List.length_map]; simp; omega
    have hlateS : ∀ m ∈ (ps.map fun (k : Nat) => MV.int (k : Int)).dropLast ++ [odd], Small m := fun m hm => by
      rcases List.mem_append.mp hm with h | h
      · exact hps m (List.dropLast_subset _ h)
      · rw [List.mem_singleton] at h; exact h ▸ hodd
    refine Ex.cons rfl ?_
    refine Ex.assign O (.inl (by kernel_rfl)) ?_ rfl
    walk_at "ev"
    refine Ev.sub ?_
    walk_at "ev"
    refine Ev.slice (Eo.none_ (Eo.some_ ?_))
    walk_at "ev"; walk_at "ev"
    refine Un.neg ?_
    refine Eo.none_ ?_
    refine slT_init hpm ?_
    walk_at "ev"; walk_at "ev"; walk_at "ev"; walk_at "ev"
    refine ⟨by rw [sizeLine_eq]; simp, ?_⟩
    refine Bin.addT (by rw [List.length_append] at hlate; exact lt64 hlate) ?_
    refine Ex.cons rfl ?_
    refine Ex.assign O (.inl (by kernel_rfl)) ?_ rfl
    walk_at "ev"; walk_at "ev"; walk_at "ev"; walk_at "ev"; walk_at "ev"; walk_at "ev"; walk_at "ev"; walk_at "ev"; walk_at "ev"; walk_at "ev"; walk_at "ev"; walk_at "ev"; walk_at "ev"; walk_at "ev"
    refine ⟨by rw [sizeLine_eq]; simp, ?_⟩
    walk_at "ev"
    refine ⟨by rw [sizeLine_eq]; simp, ?_⟩
    refine Bin.addL (by rw [List.length_map, sizeLine_eq]; have := hcs.1; simp; omega) ?_
    refine Ex.vars (("late", .tup ((ps.map fun (k : Nat) => MV.int (k : Int)).dropLast ++ [odd])) :: ("rows", stepsX cs [rowV true c ((ps.map fun (k : Nat) => MV.int (k : Int)).dropLast ++ [odd]) t l]) :: TdV nl cs many c ps t l) (SubV.ofMap rfl) ?_
    refine Ex.cons rfl ?_
    refine Ex.ifq (c := false) (Etq.cmp ?_) (fun hb => nomatch hb) (fun _ => ?_)
    · refine Ev.meth (fn_fault_of G.hK).kp ?_
      walk_at "ev"
      refine ⟨Gm.inst G (by kernel_rfl) (by kernel_rfl) (.inr (.inr rfl)), ?_⟩
      walk_at "ev"; walk_at "ev"; walk_at "ev"
      refine Ev.call O (by kernel_rfl) (g_len G) Kp.builtin ?_
      walk_at "ev"; walk_at "ev"; walk_at "ev"
      refine Co.quiet (len_l hsl ?_)
      walk_at "ev"
      rw [List.length_map]
      refine Co.fnKeep (co_fault_of G (hA'.less (by omega)) hcs (by omega) hcl6 hlate hlateS hl6 hsm) fun r hr => ?_
      subst hr
      refine Ev.call O (by kernel_rfl) (g_law_step_word G) (fn_law_step_word G.hK).kp ?_
      walk_at "ev"; walk_at "ev"; walk_at "ev"; walk_at "ev"; walk_at "ev"; walk_at "ev"; walk_at "ev"; walk_at "ev"; walk_at "ev"; walk_at "ev"; walk_at "ev"
      refine Co.fnKeep (co_law_step_word G hA' hcs hco hcl6 hlate hlateS hl6 hsm) fun r hr => ?_
      subst hr
      refine (Cmp.neS ⟨rfl, ?_⟩).d
      rw [hnl, fault_word hk hco, bne_self_eq_false]
    refine Ex.nil (Ex.nil ⟨rfl, hr', ?_⟩)
    exact (SubV.ofMap rfl)
  · rintro ρ δ ⟨rfl, _, hV⟩
    refine Ex.vars (TdV nl cs many c ps t l) hV ?_
    refine Ex.cons rfl (Ex.ret ?_)
    walk_at "ev"
    refine Ev.meth (fn_fault_of G.hK).kp ?_
    walk_at "ev"
    refine ⟨Gm.inst G (by kernel_rfl) (by kernel_rfl) (.inr (.inr rfl)), ?_⟩
    walk_at "ev"; walk_at "ev"; walk_at "ev"; walk_at "ev"; walk_at "ev"; walk_at "ev"; walk_at "ev"; walk_at "ev"; walk_at "ev"
    refine Ev.call O (by kernel_rfl) (g_list G) Kp.type ?_
    walk_at "ev"; walk_at "ev"; walk_at "ev"
    refine Co.quiet (lst_tup (sz64 hcl6) ?_)
    walk_at "ev"; walk_at "ev"; walk_at "ev"; walk_at "ev"; walk_at "ev"
    refine ⟨by rw [sizeLine_eq]; simp, ?_⟩
    walk_at "ev"
    refine ⟨by rw [sizeLine_eq]; simp, ?_⟩
    refine Bin.addL (by rw [List.length_map, sizeLine_eq]; have := hcs.1; simp; omega) ?_
    walk_at "ev"
    refine Ev.call O (by kernel_rfl) (g_len G) Kp.builtin ?_
    walk_at "ev"; walk_at "ev"; walk_at "ev"
    refine Co.quiet (len_l hsl ?_)
    walk_at "ev"
    rw [List.length_map]
    refine Co.fnKeep (co_fault_of (t' := false) G (hA'.less (by omega)) hcs (by omega) hcl6 hpm hps hl6 hsm) fun r hr => ?_
    subst hr
    walk_at "ev"
    refine (Cmp.eqS ?_).d
    rfl
  · simp only [List.mem_cons, List.not_mem_nil, or_false] at hm
    rcases hm with rfl | rfl | rfl
    · exact .int _
    · exact .int _
    · exact .bool _
end
end
end Mine

/- part SF -/
namespace Mine
noncomputable section
open PySem PySem.W PySem.Calls PyProof.Rows

local macro_rules | `(tactic| walk_at "ev") => `(tactic| first
  | with_reducible refine Ev.int ?_
  | with_reducible refine Ev.str ?_
  | with_reducible refine Ev.bool ?_
  | with_reducible refine Ev.none_ ?_
  | ((with_reducible refine' Ev.name (by assumption) ?evn ?_); (case evn => rfl))
  | ((with_reducible refine' Ev.globT (by assumption) (by kernel_rfl) ?evg ?_); (case evg => first | exact g_int (by assumption) | exact g_bool (by assumption) | exact g_str (by assumption) | exact g_tuple (by assumption)))
  | with_reducible refine Ev.bin ?_
  | with_reducible refine Ev.un ?_
  | with_reducible refine Ev.ifExp ?_
  | ((with_reducible refine Ev.cmp ?_ ?evm); (case evm => with_unfolding_all rfl))
  | with_reducible refine Ev.tuple ?_
  | with_reducible refine Ev.list ?_
  | with_reducible refine El.nil ?_
  | ((with_reducible refine El.cons ?_ ?elh); (case elh => rfl)))


noncomputable def b_law : List Stmt := bodyOf (stAt 24)
noncomputable def s_law : Scope := (scopeOf (stAt 24)).getD default
theorem fn_law {B : Bs} (hK : B.K = HK B.w.params) : FnAt B 262 ["script"] b_law s_law :=
  fn_gen (t := tokAt B.w.params 261) hK (c := 261) (by kernel_rfl) (by kernel_rfl) (by kernel_rfl) (by kernel_rfl) (by kernel_rfl) (by kernel_rfl) (by kernel_rfl) (by kernel_rfl) (by kernel_rfl) (by kernel_rfl) (by kernel_rfl) fun vals h => by
    obtain ⟨a, rfl⟩ := len1 h
    kernel_rfl
theorem g_law {B : Bs} (G : Ok B) : B.Glob "law" (.ref 262) := gUser G (by kernel_rfl)
section
variable {B : Bs} {A : Around} {δ : Ds}
theorem CpOk.run {α : Type} {cenv : Env} {x : Str} {elt : Expr} {ρc : Vs} {Q : List MV → Ds → Prop} (w : α → MV) (J : List MV → List α → Ds → Prop)
    (h : ∀ a r acc δ, J acc (a :: r) δ → Ev B A cenv (eval elt cenv) (setv ρc x (w a)) δ fun y δ₁ => J (acc ++ [y]) r δ₁) (h0 : ∀ acc δ, J acc [] δ → Q acc δ) :
    ∀ (l : List α) (acc : List MV) (δ : Ds), J acc l δ → CpOk B A cenv x [] elt ρc Q (l.map w) acc δ
  | [], acc, δ, j => h0 acc δ j
  | a :: l, acc, δ, j => by
    have ih := fun acc' δ' => CpOk.run (Q := Q) w J h h0 l acc' δ'
    show Ev B A cenv _ _ _ _
    exact (h a l acc δ j).mono fun y δ₁ q => ih _ _ q
theorem steps_ok {many : Nat} {cs : List (List Int)} (hm : many ≤ 4) (hn : cs.length ≤ 4) (h : ∀ c ∈ cs, ClauseOk many c ∧ c.length ≤ 3) : StepsOk cs ∧ CsOk many cs :=
  ⟨⟨by omega, fun c hc => ⟨(h c hc).1.lit hm, by have := (h c hc).2; omega⟩⟩, hm, fun c hc => (h c hc).1⟩
/-- the script: a list of the world's, known by its place -/
theorem ints_rep {C : Cx} {g : Gh} : ∀ {vs : List Value} {l : List Int}, IntsAre vs l → RepL C g (ints' l) vs
  | _, _, .nil => rfl
  | _, _, .cons n t h => ⟨_, _, rfl, ⟨t, rfl⟩, ints_rep h⟩
theorem Sb.script {lo hi st : MV} {ad : Addr} {vs : List Value} {l : List Int} {b : Nat} {P : MV → Prop} (hL : B.hb.IsList ad vs.toArray) (hi' : IntsAre vs l) (hl : l.length ≤ sizeLine) (ha : PartOf lo none) (hb : PartOf hi (some (b : Int))) (hc : PartOf st none)
    (h : P (.lst (ints' (l.take b)))) : Sb B A δ (.dict ad) (.slc lo hi st) P := fun X u v e ⟨sl, vl, vu, vst, e', hs, r1, r2, r3⟩ H => by
  have e0 : u = .ref ad := e
  subst e0 e'
  obtain ⟨o, ho, hcls, n, hd⟩ := hL
  have hX := X.keepsB _ _ ho
  have hT : ∀ tk, (St B X.h tk).TypeIs (.ref ad) "list" := fun tk => ⟨_, hX, hcls⟩
  have rl : RepL B.C X.g (ints' l) vs := ints_rep hi'
  have hlen : vs.length = l.length := by rw [rl.length, List.length_map]
  refine ⟨⟨"list", _, hT, slot_list_getitem.lookup⟩, fun tk => wpAny_getItem_list_slice (items := vs.toArray) ⟨_, hX, hcls, n, hd⟩ ⟨_, X.sub _ _ hs, rfl, rfl⟩ (ha.is r1) (hb.is r2) (hc.is r3) (by simp) ?_ (by simpa [hlen] using hl)⟩
  rw [slicePick_upto']
  have rr : RepL B.C X.g (ints' (l.take b)) (vs.take b) := by
    have := rl.tsl none (some (b : Int)) none
    rw [tsl_take, tsl_take, List.map_take.symm] at this
    exact this
  have l₂ := Wd.push_le X (lstO (vs.take b))
  exact ⟨X.push (lstO (vs.take b)), tk, rfl, l₂, _, h, _, _, 0, rfl, Wd.push_at X _, l₂.repL rr⟩
noncomputable abbrev LwV (a : Addr) (many : Nat) (nl : List MV) (cs : List (List Int)) (c : List Int) (ps : List Nat) (js : List Int) : Vs := [("feed", .dict a), ("many", .int (many : Int)), ("judge", .inst nl), ("steps", stepsV cs), ("chain", .tup [.tup (ints' c), natsV ps, .tup (ints' js)])]
noncomputable abbrev LwJ (a : Addr) (cells : List Int) (V : Vs) (r : List Nat) (ρ' : Vs) (δ' : Ds) : Prop := ∃ s' : Nat, δ' = feedD a cells s' ∧ s' + 4 * r.length ≤ 100 ∧ SubV V ρ'
noncomputable abbrev LwC (a : Addr) (cells : List Int) (many n0 : Nat) (acc : List MV) (r : List Nat) (δ' : Ds) : Prop := ∃ (cs : List (List Int)) (s' : Nat), acc = cs.map stepV ∧ δ' = feedD a cells s' ∧ s' + 4 * r.length ≤ 18 ∧ cs.length + r.length = 2 + n0 ∧ ∀ c ∈ cs, ClauseOk many c ∧ c.length ≤ 3
set_option maxHeartbeats 4000000 in
theorem co_law (G : Ok B) (hA : AOk 7 A) {ad : Addr} {vs : List Value} {script : List Int} (hL : B.hb.IsList ad vs.toArray) (hi' : IntsAre vs script) (hsc : script.length ≤ 63) : Co B A (.ref 262) [.dict ad] [] fun r δ' => r = .bool true := by
  have hcl : (script.take 48).length < 64 := by rw [List.length_take]; omega
  refine Co.fn (fn_law G.hK) hA (by kernel_rfl) fun A' L qual code hA' O hC => ?_
  refine Ex.cons rfl ?_
  refine Ex.assign O (.inr ⟨by kernel_rfl, _, rfl⟩) (Ev.dict2 O (by decide) ?_) rfl
  refine Ev.call O (by kernel_rfl) (g_list G) Kp.type ?_
  walk_at "ev"
  refine Ev.sub ?_
  walk_at "ev"
  refine Ev.slice (Eo.none_ (Eo.some_ ?_))
  walk_at "ev"
  refine Eo.none_ ?_
  refine Sb.script (b := 48) hL hi' (lt64 (by omega)) rfl rfl rfl ?_
  walk_at "ev"
  refine Co.quiet (lst_lst (sz64 hcl) ?_)
  walk_at "ev"
  intro a
  generalize script.take 48 = cells at hcl ⊢
  refine Ex.vars [("feed", .dict a)] (SubV.ofMap rfl) ?_
  show Ex B A' _ _ _ (feedD a cells 0) _
  refine Ex.cons rfl ?_
  refine Ex.assign O (.inr ⟨by kernel_rfl, _, rfl⟩) ?_ rfl
  walk_at "ev"
  walk_at "ev"
  refine Ev.call O (by kernel_rfl) (g_law_next G) (fn_law_next G.hK).kp ?_
  walk_at "ev"; walk_at "ev"; walk_at "ev"; walk_at "ev"; walk_at "ev"
  refine next_0 (w := 3) G (hA'.less (by omega)) (by omega) hcl (by decide) fun m0 hm0 => ?_
  refine Bin.addI ?_
  have em : (2 : Int) + (m0 : Int) = ((2 + m0 : Nat) : Int) := by push_cast; rfl
  rw [em]
  have hmany : 2 ≤ 2 + m0 ∧ 2 + m0 ≤ 4 := by omega
  generalize 2 + m0 = many at hmany ⊢
  refine Ex.vars [("feed", .dict a), ("many", .int (many : Int))] (SubV.ofMap rfl) ?_
  refine Ex.cons rfl ?_
  refine Ex.assign O (.inl (by kernel_rfl)) ?_ rfl
  refine Ev.call O (by kernel_rfl) (g_StepChecker G) (kp_cls G) ?_
  walk_at "ev"; walk_at "ev"; walk_at "ev"; walk_at "ev"; walk_at "ev"; walk_at "ev"; walk_at "ev"; walk_at "ev"
  refine ⟨by rw [sizeLine_eq]; simp, ?_⟩
  walk_at "ev"; walk_at "ev"; walk_at "ev"; walk_at "ev"; walk_at "ev"
  refine ⟨by rw [sizeLine_eq]; simp, ?_⟩
  walk_at "ev"
  refine Bin.mulL (by omega) ?_
  refine Bin.addL (by rw [sizeLine_eq]; simp; omega) ?_
  walk_at "ev"; walk_at "ev"; walk_at "ev"
  refine ⟨by rw [sizeLine_eq]; simp, ?_⟩
  walk_at "ev"; walk_at "ev"; walk_at "ev"
  refine ⟨by rw [sizeLine_eq]; simp, ?_⟩
  walk_at "ev"
  refine Co.fnKeep (co_make G (hA'.less (by omega))) fun r hr => ?_
  subst hr
  have hnl : ([MV.int 0] ++ List.replicate many (MV.int 1)).length = many + 1 := by rw [List.length_append, List.length_replicate]; simp; omega
  generalize [MV.int 0] ++ List.replicate many (MV.int 1) = nl at hnl ⊢
  refine Ex.vars [("feed", .dict a), ("many", .int (many : Int)), ("judge", .inst nl)] (SubV.ofMap rfl) ?_
  refine Ex.cons rfl ?_
  refine Ex.assignComp' O hA'.hh ?ca ?cw (.inl (by kernel_rfl)) ?_
  (case ca => kernel_rfl)
  (case cw => with_unfolding_all rfl)
  refine Ev.call O (by kernel_rfl) (g_range G) Kp.type ?_
  walk_at "ev"; walk_at "ev"; walk_at "ev"
  refine Ev.call O (by kernel_rfl) (g_law_next G) (fn_law_next G.hK).kp ?_
  walk_at "ev"; walk_at "ev"; walk_at "ev"; walk_at "ev"; walk_at "ev"
  refine next_0 (w := 3) G (hA'.less (by omega)) (by omega) hcl (by decide) fun n0 hn0 => ?_
  refine Bin.addI ?_
  walk_at "ev"
  refine Co.quiet (range1 ?_)
  have hp24 : (2 : Int) ^ 24 = 16777216 := by decide
  refine ⟨_, It.rng hA'.hh (by omega) (by omega) (by rw [hp24]; omega), fun items e => ?_⟩
  subst e
  rw [rng0]
  have e2 : ((2 : Int) + (n0 : Int) - 0).toNat = 2 + n0 := by omega
  rw [e2]
  refine ⟨by rw [List.length_map, List.length_range, sizeLine_eq]; omega, fun C OC => ?_⟩
  refine CpOk.run (fun (n : Nat) => MV.int (n : Int)) (LwC a cells many n0) ?_ ?_ _ _ _
    ⟨[], 0 + 1 + 1, rfl, rfl, by rw [List.length_range]; omega, by rw [List.length_range]; simp, fun _ h => nomatch h⟩
  · rintro lap r acc δ ⟨cs, s', rfl, rfl, hs', hn, hcs⟩
    rw [List.length_cons] at hs' hn
    walk_at "ev"; walk_at "ev"; walk_at "ev"; walk_at "ev"
    refine Ev.call OC (by kernel_rfl) (g_law_clause G) (fn_law_clause G.hK).kp ?_
    walk_at "ev"; walk_at "ev"; walk_at "ev"; walk_at "ev"; walk_at "ev"
    refine (co_law_clause G (hA'.less (by omega)) (by omega) hcl hmany).mono fun m δ' _ ⟨c, s2, e1, e2, h1, h2, h3⟩ => ?_
    subst e1 e2
    walk_at "ev"; walk_at "ev"; walk_at "ev"
    refine ⟨by rw [sizeLine_eq]; simp, ?_⟩
    walk_at "ev"; walk_at "ev"; walk_at "ev"
    refine ⟨by rw [sizeLine_eq]; simp, ?_⟩
    refine ⟨cs ++ [c], s2, by rw [List.map_append]; rfl, rfl, by omega, by rw [List.length_append]; simp; omega, fun c' h => ?_⟩
    rcases List.mem_append.mp h with h | h
    · exact hcs c' h
    · rw [List.mem_singleton] at h; exact h ▸ ⟨h2, h3⟩
  rintro acc δ ⟨cs, s, rfl, rfl, hs, hn, hcs⟩
  simp only [List.length_nil, Nat.add_zero, Nat.mul_zero] at hs hn
  obtain ⟨hok, hck⟩ := steps_ok hmany.2 (by omega) hcs
  have hsl : (cs.map stepV).length ≤ sizeLine := by rw [List.length_map]; exact lt64 hok.1
  refine Ex.vars [("feed", .dict a), ("many", .int (many : Int)), ("judge", .inst nl), ("steps", stepsV cs)] (SubV.ofMap rfl) ?_
  refine Ex.cons rfl ?_
  refine Ex.assign O (.inl (by kernel_rfl)) ?_ rfl
  refine Ev.call O (by kernel_rfl) (g_law_chain G) (fn_law_chain G.hK).kp ?_
  walk_at "ev"; walk_at "ev"; walk_at "ev"; walk_at "ev"; walk_at "ev"; walk_at "ev"; walk_at "ev"
  refine (co_law_chain G (hA'.less (by omega)) (by omega) hcl hmany hok (by omega) (by omega)).mono fun m δ' _ ⟨c, ps, js, s2, e1, e2, h1, hco, hc10, hp0, hp4, hpk, hjs⟩ => ?_
  subst e1 e2
  have hch : ChainOk cs.length (.tup [.tup (ints' c), natsV ps, .tup (ints' js)]) := ⟨c, ps, true, ints' js, rfl, hco, by omega, hp4, hpk, by rw [List.length_map]; omega, small_ints⟩
  refine Ex.vars (LwV a many nl cs c ps js) (SubV.ofMap rfl) ?_
  refine Ex.cons rfl ?_
  refine Ex.ifq (c := false) (Etq.or2 (b := false) (c := false) (Etq.not (b := true) (Et.value ?_)) fun _ => Etq.not (b := true) (Et.value ?_)) (fun hb => nomatch hb) (fun _ => ?_)
  · refine Ev.call O (by kernel_rfl) (g_law_is_told G) (fn_law_is_told G.hK).kp ?_
    walk_at "ev"; walk_at "ev"; walk_at "ev"; walk_at "ev"; walk_at "ev"; walk_at "ev"; walk_at "ev"; walk_at "ev"; walk_at "ev"
    refine Co.fnKeep (co_law_is_told G (hA'.less (by omega)) hok hck hnl hch) fun r hr => ?_
    exact ⟨true, hr, rfl, rfl⟩
  · refine Ev.call O (by kernel_rfl) (g_law_ahead G) (fn_law_ahead G.hK).kp ?_
    walk_at "ev"; walk_at "ev"; walk_at "ev"; walk_at "ev"; walk_at "ev"; walk_at "ev"; walk_at "ev"; walk_at "ev"; walk_at "ev"
    refine Co.fnKeep (co_law_ahead G (hA'.less (by omega)) hok hck hnl hch) fun r hr => ?_
    exact ⟨true, hr, rfl, rfl⟩
  refine Ex.nil (Ex.cons rfl ?_)
  refine Ex.for_ (x := "lap") O hA'.hh (.inl (by kernel_rfl)) ?_
  refine Ev.call O (by kernel_rfl) (g_range G) Kp.type ?_
  walk_at "ev"; walk_at "ev"; walk_at "ev"
  refine Co.quiet (range1 ?_)
  refine ⟨_, It.rng hA'.hh (by omega) (by omega) (by rw [hp24]; omega), fun items e => ?_⟩
  subst e
  rw [rng0]
  refine ForOk.run (fun (n : Nat) => MV.int (n : Int)) (LwJ a cells (LwV a many nl cs c ps js)) ?_ ?_ _ _ _ ⟨s2, rfl, by rw [List.length_range]; show s2 + 4 * 3 ≤ 100; omega, (SubV.ofMap rfl)⟩
  · rintro lap r ρ δ ⟨s', rfl, hs', hV⟩
    rw [List.length_cons] at hs'
    refine Ex.vars (LwV a many nl cs c ps js) (SubV.set1 hV (by kernel_rfl)).2 ?_
    refine Ex.cons rfl ?_
    refine Ex.if_ (Et.not (Et.value ?_))
    refine Ev.call O (by kernel_rfl) (g_law_is_told G) (fn_law_is_told G.hK).kp ?_
    walk_at "ev"; walk_at "ev"; walk_at "ev"; walk_at "ev"; walk_at "ev"
    refine Ev.call O (by kernel_rfl) (g_law_bent G) (fn_law_bent G.hK).kp ?_
    walk_at "ev"; walk_at "ev"; walk_at "ev"; walk_at "ev"; walk_at "ev"
    refine Ev.call O (by kernel_rfl) (g_len G) Kp.builtin ?_
    walk_at "ev"; walk_at "ev"; walk_at "ev"
    refine Co.quiet (len_l hsl ?_)
    walk_at "ev"; walk_at "ev"; walk_at "ev"
    rw [List.length_map]
    refine (co_law_bent G (hA'.less (by omega)) (by omega) hcl hmany hco hc10 hp0 hp4 hpk hjs).mono fun m δ' _ ⟨hch2, s3, e3, hs3⟩ => ?_
    subst e3
    walk_at "ev"; walk_at "ev"; walk_at "ev"
    refine Co.fnKeep (co_law_is_told G (hA'.less (by omega)) hok hck hnl hch2) fun r hr => ?_
    refine ⟨true, hr, ?_⟩
    show Ex B A' _ _ _ _ _
    exact Ex.nil (Ex.nil ⟨s3, rfl, by omega, (SubV.ofMap rfl)⟩)
  · rintro ρ δ ⟨s', rfl, hs', hV⟩
    refine Ex.vars (LwV a many nl cs c ps js) hV ?_
    refine Ex.cons rfl (Ex.ret ?_)
    walk_at "ev"
    exact ⟨[], feedD a cells s', rfl, rfl, rfl⟩
end
end
end Mine

/- part SG -/
namespace Mine
noncomputable section
open PySem PySem.W PySem.Calls PyProof.Rows

theorem fin_run {w : World} {s₁ : Shared} {mg mb : Str → Option Value} {p : Program} {loose : List Str} {mean : ExcName → Option Value} (T : Top p loose mean mg mb s₁.heap) (KX : (HK w.params).In s₁.heap) {a ad : Addr} (hmg : mg "law" = some (.ref a))
    {vs : List Value} {script : List Int} (hL : s₁.heap.IsList ad vs.toArray) (hi : IntsAre vs script) (hsc : script.length ≤ 63) :
    wpAny (model PG w) callerA (call (.ref a) [.ref ad]) (fun v s' => v = .bool true ∧ ∃ h tk, s' = { s₁ with heap := h, toks := tk } ∧ ∀ b o, s₁.heap.get? b = some o → h.get? b = some o) (fun _ _ => False) s₁ := by
  let B : Bs := { w := w, s0 := s₁, hb := s₁.heap, K := HK w.params, KX := KX, p := p, loose := loose, mg := mg, mb := mb, T := topRead_of T, C := ⟨176, w.params.followText "set-order"⟩, txt := rfl }
  have G : Ok B := ⟨rfl, rfl⟩
  have ha : mg "law" = some (.ref 262) := (mg_is G "law").trans (by kernel_rfl)
  rw [ha] at hmg
  cases hmg
  have hA : AOk 7 callerA := ⟨rfl, by decide, by decide⟩
  let X : Wd B := { g := s₁.heap.get?, h := s₁.heap, sub := fun _ _ e => e, base := fun _ _ e => e }
  have h := co_law G hA (ad := ad) hL hi hsc X [.ref ad] ⟨.ref ad, [], rfl, rfl, rfl⟩ ⟨fun _ h => (nomatch h), List.nodup_nil⟩ s₁.toks
  refine wpAny_mono h (fun v s' => ?_) fun _ _ q => q
  rintro ⟨X', tk', rfl, l, m, δ', rfl, _, rv, _⟩
  exact ⟨rv, X'.h, tk', rfl, fun b o e => l.keep b o e (fun q => nomatch q)⟩
end
end Mine
open PySem PySem.W PyProof.Rows in
set_option maxRecDepth 100000 in
set_option maxHeartbeats 8000000 in
theorem PySem.Challenge.cw_nz0139_01_holds : PySem.Challenge.rw_nz0139_01.Holds := by
  refine Mine.hd ?_
  intro w s₀ s₁ mg mb G Y a o pm cd doc dV kV ho hdd hcd hD hmg hg args vals as hpre hlay hrd hwl hlo
  have KX := kIn_of Y
  have T := G.T
  clear ho hdd hcd hD G Y
  w_on
  wrow_args hpre hlay hrd hwl hlo
  refine wpAny_mono (Mine.fin_run T KX hmg (by assumption) (by assumption) (by omega)) (fun v s' => ?_) fun _ _ q => q.elim
  rintro ⟨rfl, h, tk, rfl, hk⟩
  refine GoodW.toG ⟨.inl ⟨.bool true, .bool true, [], rfl, raisesW_false allW_false_nil, .bool true, ?_, fun _ => ⟨List.nodup_nil, fun _ h => nomatch h⟩⟩, hk, rfl, hg⟩
  wrow_post

