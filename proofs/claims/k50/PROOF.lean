import PyProof.Rows.All
import HandS.ForMost
import HandS.Flow
import HandS.Zip
import HandS.RevRange
import HandS.Style
import HandS.IsInst
import HandS.Deep
import HandS.TupAny
import HandS.TupMul
import HandS.Wide
import HandS.WideBits
import HandS.HeadHook2
import KE.KDictKeyed
import KE.SortData
import KE.GoesEnum
import KE.KDictSum
import KE.KDictDisplayH
import KE.KDictCopyH
import HandS.Defaults
import HandS.HeadEnd
import PySem.Challenge.RW_neverspent_k50_whole_places_come_within
import Wide.All
import OpenK.AllK
import Wide.FinOn
import KE.KStateDown
import HandS.Head0
import HandS.Head1
import HandS.Head2
import HandS.HeadHook1
set_option Elab.async false
set_option linter.all false
set_option maxRecDepth 100000
/-! The data layer: Python values told as plain data, over the hand layer. Part A: data, memory, worlds. -/
namespace Dl
open PySem PySem.Spec PyProof.Rows L2

/-- a value as plain data: what never changes is told by its content; what changes stands in the memory, by number -/
inductive D where
  | non | bl (b : Bool) | int (i : Int) | str (x : Str)
  | tup (l : List D) | lst (l : List D)
  | adr (n : Nat) | fn (x : Str) | ty (n : String) | scr (l : List Int)

mutual
def D.beq : D → D → Bool
  | .non, .non => true
  | .bl a, .bl b => decide (a = b)
  | .int a, .int b => decide (a = b)
  | .str a, .str b => decide (a = b)
  | .tup a, .tup b => D.beqs a b
  | .lst a, .lst b => D.beqs a b
  | .adr a, .adr b => decide (a = b)
  | .fn a, .fn b => decide (a = b)
  | .ty a, .ty b => decide (a = b)
  | .scr a, .scr b => decide (a = b)
  | _, _ => false
def D.beqs : List D → List D → Bool
  | [], [] => true
  | a :: r, b :: s => D.beq a b && D.beqs r s
  | _, _ => false
end
mutual
theorem D.eq_of : ∀ (a b : D), D.beq a b = true → a = b
  | .non, b, h => by cases b <;> first | rfl | (simp [D.beq] at h)
  | .bl a, b, h => by cases b <;> first | (simp [D.beq] at h; done) | (simp [D.beq] at h; rw [h])
  | .int a, b, h => by cases b <;> first | (simp [D.beq] at h; done) | (simp [D.beq] at h; rw [h])
  | .str a, b, h => by cases b <;> first | (simp [D.beq] at h; done) | (simp [D.beq] at h; rw [h])
  | .adr a, b, h => by cases b <;> first | (simp [D.beq] at h; done) | (simp [D.beq] at h; rw [h])
  | .fn a, b, h => by cases b <;> first | (simp [D.beq] at h; done) | (simp [D.beq] at h; rw [h])
  | .ty a, b, h => by cases b <;> first | (simp [D.beq] at h; done) | (simp [D.beq] at h; rw [h])
  | .scr a, b, h => by cases b <;> first | (simp [D.beq] at h; done) | (simp [D.beq] at h; rw [h])
  | .tup a, b, h => by
    cases b with
    | tup b => rw [D.beq] at h; rw [D.eqs_of a b h]
    | _ => simp [D.beq] at h
  | .lst a, b, h => by
    cases b with
    | lst b => rw [D.beq] at h; rw [D.eqs_of a b h]
    | _ => simp [D.beq] at h
theorem D.eqs_of : ∀ (a b : List D), D.beqs a b = true → a = b
  | [], [], _ => rfl
  | [], _ :: _, h => by simp [D.beqs] at h
  | _ :: _, [], h => by simp [D.beqs] at h
  | a :: r, b :: s, h => by
    rw [D.beqs, Bool.and_eq_true] at h
    rw [D.eq_of a b h.1, D.eqs_of r s h.2]
end
mutual
theorem D.beq_self : ∀ (a : D), D.beq a a = true
  | .non => rfl
  | .bl a => by simp [D.beq]
  | .int a => by simp [D.beq]
  | .str a => by simp [D.beq]
  | .adr a => by simp [D.beq]
  | .fn a => by simp [D.beq]
  | .ty a => by simp [D.beq]
  | .scr a => by simp [D.beq]
  | .tup a => by rw [D.beq]; exact D.beqs_self a
  | .lst a => by rw [D.beq]; exact D.beqs_self a
theorem D.beqs_self : ∀ (a : List D), D.beqs a a = true
  | [] => rfl
  | a :: r => by rw [D.beqs, D.beq_self a, D.beqs_self r]; rfl
end
instance : DecidableEq D := fun a b => if h : D.beq a b = true then .isTrue (D.eq_of a b h) else .isFalse fun e => h (by rw [e]; exact D.beq_self b)

/-- what stands at a number of the memory: a list, a dict with tuples as keys, an instance -/
inductive MO where
  | lst (l : List D) | dic (l : List (NestedKey × D)) | lck (l : List (NestedKey × D)) | ins (C : Str) (fs : List (Str × D))
  deriving DecidableEq
/-- a dict that is walked, and never changes from then on -/
def MO.isLck : MO → Bool
  | .lck _ => true
  | _ => false

abbrev Mem := List (Option MO)
abbrev Env := List (Option D)
inductive Res (α : Type) where
  | ok (a : α) (M : Mem) | exc (C : Str) (fs : List (Str × D)) (M : Mem) | bad
def Res.bind {α β : Type} (r : Res α) (k : α → Mem → Res β) : Res β := match r with
  | .ok a M => k a M
  | .exc C fs M => .exc C fs M
  | .bad => .bad
section
variable {α β γ : Type}
@[simp] theorem bind_ok (a : α) (M : Mem) (k : α → Mem → Res β) : (Res.ok a M).bind k = k a M := rfl
@[simp] theorem bind_exc (C : Str) (fs : List (Str × D)) (M : Mem) (k : α → Mem → Res β) : (Res.exc C fs M).bind k = .exc C fs M := rfl
@[simp] theorem bind_bad (k : α → Mem → Res β) : (Res.bad : Res α).bind k = .bad := rfl
@[simp] theorem bind_ite {c : Prop} [Decidable c] (r s : Res α) (k : α → Mem → Res β) : (if c then r else s).bind k = if c then r.bind k else s.bind k := by split <;> rfl
theorem bind_assoc (r : Res α) (k : α → Mem → Res β) (j : β → Mem → Res γ) : (r.bind k).bind j = r.bind fun a M => (k a M).bind j := by cases r <;> rfl
end

/-- the two sides of a state: the memory's numbers and where they stand, what is frozen, the memory, the hand layer's heap -/
structure Wd where
  rhW : Nat → Addr
  F : Addr → Prop
  M : Mem
  H : Hp

section
variable (K : PySem.W.Frag)
mutual
inductive Is (w : Wd) : D → V → Prop
  | non : Is w .non .non
  | bl (b : Bool) : Is w (.bl b) (.bl b)
  | int (i : Int) : Is w (.int i) (.int i)
  | str (x : Str) : Is w (.str x) (.str x)
  | tup {l : List D} {a : Addr} {vs : List V} : w.H a = some (.tup vs) → IsAll w l vs → Is w (.tup l) (.ref a)
  | lst {l : List D} {a : Addr} {vs : List V} : w.F a → w.H a = some (.lst vs) → IsAll w l vs → Is w (.lst l) (.ref a)
  | adr {n : Nat} : n < w.M.length → Is w (.adr n) (.ref (w.rhW n))
  | fn (x : Str) : Is w (.fn x) (.ref (He.ga K x))
  | ty (n : String) : Is w (.ty n) (.ty n)
  | scr {l : List Int} {a : Addr} : ((w.F a ∧ SqL K w.H a (l.map V.int) ∧ w.H a ≠ none) ∨ ∀ H : Hp, SqL K H a (l.map V.int)) → Is w (.scr l) (.ref a)
inductive IsAll (w : Wd) : List D → List V → Prop
  | nil : IsAll w [] []
  | cons {d : D} {v : V} {l : List D} {vs : List V} : Is w d v → IsAll w l vs → IsAll w (d :: l) (v :: vs)
end
/-- fields by name -/
inductive FsIs (w : Wd) : List (Str × D) → List (Str × V) → Prop
  | nil : FsIs w [] []
  | cons {x : Str} {d : D} {v : V} {l : List (Str × D)} {vs : List (Str × V)} : Is K w d v → FsIs w l vs → FsIs w ((x, d) :: l) ((x, v) :: vs)
end
/-- the entries of a dict with tuples as keys, as they lie there -/
abbrev RawE := List (NestedKey × Addr × Value)
/-- a key's tuple, on the hand layer's heap -/
inductive KeyV : NestedKey → V → Prop where
  | none : KeyV .none .non
  | num (i : Int) : KeyV (.num i) (.int i)
  | text (x : Str) : KeyV (.text x) (.str x)
mutual
inductive KeyAt (H : Hp) : NestedKey → V → Prop
  | none : KeyAt H .none .non
  | num (i : Int) : KeyAt H (.num i) (.int i)
  | text (x : Str) : KeyAt H (.text x) (.str x)
  | tup {ks : List NestedKey} {a : Addr} {vs : List V} : H a = some (.tup vs) → KeysAt H ks vs → KeyAt H (.tup ks) (.ref a)
inductive KeysAt (H : Hp) : List NestedKey → List V → Prop
  | nil : KeysAt H [] []
  | cons {k : NestedKey} {v : V} {ks : List NestedKey} {vs : List V} : KeyAt H k v → KeysAt H ks vs → KeysAt H (k :: ks) (v :: vs)
end
/-- the raw table at a: its entries are these, hashed by their keys -/
def RawT (P : Program) (w : World) (a : Addr) (xs : RawE) (h : Heap) : Prop :=
  ∃ o es ep, h.get? a = some o ∧ o.ExactDict ∧ o.data = .dict es ep ∧ es.toList = xs.map (entryOfKey (nestedKind P w))
def dicO (P : Program) (w : World) (a : Addr) (xs : RawE) : HO := .ext (RawT P w a xs)
end Dl

/-! The data layer, part B: worlds and their futures; what is wanted of an answer. -/
namespace Dl
open PySem PySem.Spec PyProof.Rows L2

structure Sg where
  K : PySem.W.Frag
  P : Program
  W : World

inductive DicIs (K : PySem.W.Frag) (w : Wd) : List (NestedKey × D) → RawE → Prop
  | nil : DicIs K w [] []
  | cons {k : NestedKey} {d : D} {b : Addr} {u : Value} {v : V} {l : List (NestedKey × D)} {xs : RawE} : KeyAt w.H k (.ref b) → k.depth ≤ 8 → RelV v u → Is K w d v → DicIs K w l xs → DicIs K w ((k, d) :: l) ((k, b, u) :: xs)

def ObjIs (G : Sg) (w : Wd) : MO → Addr → Prop
  | .lst l, a => ∃ vs, w.H a = some (.lst vs) ∧ IsAll G.K w l vs
  | .dic kvs, a => ∃ xs : RawE, w.H a = some (dicO G.P G.W a xs) ∧ (a == sysModules) = false ∧ (kvs.map (·.1)).Nodup ∧ kvs.length ≤ sizeLine ∧ DicIs G.K w kvs xs
  | .lck kvs, a => ∃ (o : Obj) (xs : RawE), w.H a = some (.frz o (dicO G.P G.W a xs)) ∧ (a == sysModules) = false ∧ (kvs.map (·.1)).Nodup ∧ kvs.length ≤ sizeLine ∧ DicIs G.K w kvs xs
  | .ins C fs, a => ∃ dx fv, w.H a = some (.ins (He.ga G.K C) dx fv) ∧ FsIs G.K w fs fv

structure Wd.Ok (G : Sg) (w : Wd) : Prop where
  inj : ∀ (m n : Nat), m < w.M.length → n < w.M.length → w.rhW m = w.rhW n → m = n
  here : ∀ (m : Nat), m < w.M.length → w.H (w.rhW m) ≠ none
  obj : ∀ (m : Nat) (o : MO), w.M[m]? = some (some o) → ObjIs G w o (w.rhW m) ∧ (w.F (w.rhW m) ↔ o.isLck = true)
  frz : ∀ a, w.F a → w.H a ≠ none

/-- a is not where something of the memory stands that may change -/
def Still (w : Wd) (a : Addr) : Prop := w.H a ≠ none ∧ ∀ (m : Nat) (o : MO), w.M[m]? = some (some o) → o.isLck = false → w.rhW m ≠ a

structure Fut0 (w w' : Wd) : Prop where
  rho : ∀ (m : Nat), m < w.M.length → w'.rhW m = w.rhW m
  len : w.M.length ≤ w'.M.length
  frz : ∀ a, w.F a → w'.F a
  same : ∀ a, Still w a → w'.H a = w.H a
  dead : ∀ (m : Nat), w.M[m]? = some none → w'.M[m]? = some none
  lck : ∀ (m : Nat) (l : List (NestedKey × D)), w.M[m]? = some (some (.lck l)) → w'.M[m]? = some (some (.lck l))
structure Fut (w w' : Wd) : Prop extends Fut0 w w' where
  new : ∀ (m : Nat), w.M.length ≤ m → m < w'.M.length → w.H (w'.rhW m) = none
  frzN : ∀ a, w'.F a → w.F a ∨ ¬ Still w a

theorem lt_of_some {α : Type} {l : List α} {m : Nat} {o : α} (h : l[m]? = some o) : m < l.length := (List.getElem?_eq_some_iff.mp h).1

section
variable {G : Sg} {w w' w1 w2 : Wd}
theorem Fut.refl (w : Wd) : Fut w w := ⟨⟨fun _ _ => rfl, Nat.le_refl _, fun _ h => h, fun _ _ => rfl, fun _ h => h, fun _ _ h => h⟩, fun m h1 h2 => absurd h2 (Nat.not_lt.mpr h1), fun a h => .inl h⟩
theorem Still.fut (f : Fut w w') {a : Addr} (s : Still w a) : Still w' a := by
  refine ⟨by rw [f.same a s]; exact s.1, fun m o hm hk e => ?_⟩
  by_cases hl : m < w.M.length
  · rw [f.rho m hl] at e
    cases q : w.M[m]? with
    | none => exact absurd hl (Nat.not_lt.mpr (List.getElem?_eq_none_iff.mp q))
    | some x =>
      cases x with
      | none => rw [f.dead m q] at hm; cases hm
      | some o' =>
        refine s.2 m o' q ?_ e
        cases o' with
        | lck l => rw [f.lck m l q] at hm; cases hm; exact hk
        | _ => rfl
  · exact s.1 (by rw [← e]; exact f.new m (Nat.not_lt.mp hl) (lt_of_some hm))
theorem Fut.trans (ok1 : w1.Ok G) (f : Fut w w1) (g : Fut w1 w2) : Fut w w2 where
  rho := fun m h => (g.rho m (Nat.lt_of_lt_of_le h f.len)).trans (f.rho m h)
  len := Nat.le_trans f.len g.len
  frz := fun a h => g.frz a (f.frz a h)
  same := fun a s => (g.same a (s.fut f)).trans (f.same a s)
  dead := fun m h => g.dead m (f.dead m h)
  lck := fun m l h => g.lck m l (f.lck m l h)
  new := fun m h1 h2 => by
    by_cases hl : m < w1.M.length
    · rw [g.rho m hl]; exact f.new m h1 hl
    · have q := g.new m (Nat.not_lt.mp hl) h2
      cases e : w.H (w2.rhW m) with
      | none => rfl
      | some o =>
        exfalso
        by_cases st : ∀ (n : Nat) (o : MO), w.M[n]? = some (some o) → o.isLck = false → w.rhW n ≠ w2.rhW m
        · have := f.same (w2.rhW m) ⟨(by rw [e]; exact (fun z => nomatch z)), st⟩
          rw [q, e] at this; cases this
        · have : ∃ (n : Nat) (o : MO), w.M[n]? = some (some o) ∧ w.rhW n = w2.rhW m := by
            apply Classical.byContradiction
            intro z
            exact st fun n o h1 _ h2 => z ⟨n, o, h1, h2⟩
          obtain ⟨n, o', h3, h4⟩ := this
          have hn := lt_of_some h3
          have h5 := ok1.here n (Nat.lt_of_lt_of_le hn f.len)
          rw [f.rho n hn, h4, q] at h5
          exact h5 rfl
  frzN := fun a h => (g.frzN a h).elim (fun h => f.frzN a h) fun h => .inr fun s => h (s.fut f)

theorem Wd.Ok.live_mut (ok : w.Ok G) {m : Nat} {o : MO} (h : w.M[m]? = some (some o)) (hk : o.isLck = false) : Mut (w.H (w.rhW m)) ∧ ∀ vs, w.H (w.rhW m) ≠ some (.tup vs) := by
  have q := (ok.obj m o h).1
  cases o with
  | lst l => obtain ⟨vs, e, _⟩ := q; rw [e]; exact ⟨True.intro, fun _ z => nomatch z⟩
  | dic l => obtain ⟨xs, e, _⟩ := q; rw [e]; exact ⟨True.intro, fun _ z => nomatch z⟩
  | lck l => cases hk
  | ins C fs => obtain ⟨dx, fv, e, _⟩ := q; rw [e]; exact ⟨True.intro, fun _ z => nomatch z⟩
theorem Wd.Ok.still_tup (ok : w.Ok G) {a : Addr} {vs : List V} (h : w.H a = some (.tup vs)) : Still w a := ⟨by rw [h]; exact (fun z => nomatch z), fun m o hm hk e => (ok.live_mut hm hk).2 vs (by rw [e]; exact h)⟩
theorem Wd.Ok.still_frz (ok : w.Ok G) {a : Addr} (h : w.F a) (n : w.H a ≠ none) : Still w a := ⟨n, fun m o hm hk e => by rw [((ok.obj m o hm).2.mp (by rw [e]; exact h))] at hk; cases hk⟩

theorem SqL.congr {K : PySem.W.Frag} {H H' : Hp} {a : Addr} {xs : List V} (e : H' a = H a) (h : SqL K H a xs) : SqL K H' a xs := by
  rcases h with h | h
  · exact .inl (by unfold Rd at h ⊢; rw [e]; exact h)
  · exact .inr h

structure Keep (w w' : Wd) : Prop where
  rho : ∀ (m : Nat), m < w.M.length → w'.rhW m = w.rhW m
  len : w.M.length ≤ w'.M.length
  frz : ∀ a, w.F a → w'.F a
  same : ∀ a, Still w a → ((∃ vs, w.H a = some (.tup vs)) ∨ w.F a) → w'.H a = w.H a
theorem Fut0.keep (f : Fut0 w w') : Keep w w' := ⟨f.rho, f.len, f.frz, fun a s _ => f.same a s⟩
mutual
theorem Is.keep {K : PySem.W.Frag} (ok : w.Ok G) (f : Keep w w') : ∀ {d : D} {v : V}, Is K w d v → Is K w' d v
  | .non, _, .non => .non
  | .bl _, _, .bl b => .bl b
  | .int _, _, .int b => .int b
  | .str _, _, .str b => .str b
  | .fn _, _, .fn b => .fn b
  | .ty _, _, .ty b => .ty b
  | .tup l, _, .tup h1 h2 => .tup (by rw [f.same _ (ok.still_tup h1) (.inl ⟨_, h1⟩)]; exact h1) (IsAll.keep ok f h2)
  | .lst l, _, .lst h0 h1 h2 => .lst (f.frz _ h0) (by rw [f.same _ (ok.still_frz h0 (by rw [h1]; exact fun z => nomatch z)) (.inr h0)]; exact h1) (IsAll.keep ok f h2)
  | .adr n, _, .adr h => by rw [← f.rho n h]; exact .adr (Nat.lt_of_lt_of_le h f.len)
  | .scr l, _, .scr (.inr h) => .scr (.inr h)
  | .scr l, _, .scr (.inl ⟨h0, h1, h2⟩) => by
    have e := f.same _ (ok.still_frz h0 h2) (.inr h0)
    exact .scr (.inl ⟨f.frz _ h0, SqL.congr e h1, by rw [e]; exact h2⟩)
theorem IsAll.keep {K : PySem.W.Frag} (ok : w.Ok G) (f : Keep w w') : ∀ {l : List D} {vs : List V}, IsAll K w l vs → IsAll K w' l vs
  | _, _, .nil => .nil
  | _, _, .cons h t => .cons (Is.keep ok f h) (IsAll.keep ok f t)
end
theorem FsIs.keep {K : PySem.W.Frag} (ok : w.Ok G) (f : Keep w w') {l : List (Str × D)} {vs : List (Str × V)} (h : FsIs K w l vs) : FsIs K w' l vs := by
  induction h with
  | nil => exact .nil
  | cons h _ ih => exact .cons (h.keep ok f) ih
mutual
theorem KeyAt.keep (ok : w.Ok G) (f : Keep w w') : ∀ {k : NestedKey} {v : V}, KeyAt w.H k v → KeyAt w'.H k v
  | .none, _, .none => .none
  | .num _, _, .num i => .num i
  | .text _, _, .text i => .text i
  | .tup ks, _, .tup h1 h2 => .tup (by rw [f.same _ (ok.still_tup h1) (.inl ⟨_, h1⟩)]; exact h1) (KeysAt.keep ok f h2)
theorem KeysAt.keep (ok : w.Ok G) (f : Keep w w') : ∀ {k : List NestedKey} {v : List V}, KeysAt w.H k v → KeysAt w'.H k v
  | _, _, .nil => .nil
  | _, _, .cons h t => .cons (KeyAt.keep ok f h) (KeysAt.keep ok f t)
end
theorem DicIs.keep {K : PySem.W.Frag} (ok : w.Ok G) (f : Keep w w') {l : List (NestedKey × D)} {xs : RawE} (h : DicIs K w l xs) : DicIs K w' l xs := by
  induction h with
  | nil => exact .nil
  | cons h1 h2 h3 h4 _ ih => exact .cons (h1.keep ok f) h2 h3 (h4.keep ok f) ih

theorem Is.mono {K : PySem.W.Frag} (ok : w.Ok G) (f : Fut0 w w') {d : D} {v : V} (h : Is K w d v) : Is K w' d v := h.keep ok f.keep
theorem IsAll.mono {K : PySem.W.Frag} (ok : w.Ok G) (f : Fut0 w w') {l : List D} {vs : List V} (h : IsAll K w l vs) : IsAll K w' l vs := h.keep ok f.keep
theorem FsIs.mono {K : PySem.W.Frag} (ok : w.Ok G) (f : Fut0 w w') {l : List (Str × D)} {vs : List (Str × V)} (h : FsIs K w l vs) : FsIs K w' l vs := h.keep ok f.keep
theorem KeyAt.mono (ok : w.Ok G) (f : Fut0 w w') {k : NestedKey} {v : V} (h : KeyAt w.H k v) : KeyAt w'.H k v := h.keep ok f.keep
theorem DicIs.mono {K : PySem.W.Frag} (ok : w.Ok G) (f : Fut0 w w') {l : List (NestedKey × D)} {xs : RawE} (h : DicIs K w l xs) : DicIs K w' l xs := h.keep ok f.keep

theorem IsAll.length {K : PySem.W.Frag} : ∀ {l : List D} {vs : List V}, IsAll K w l vs → vs.length = l.length
  | _, _, .nil => rfl
  | _, _, .cons _ t => by rw [List.length_cons, List.length_cons, t.length]
theorem IsAll.get {K : PySem.W.Frag} : ∀ {l : List D} {vs : List V} {i : Nat} {d : D}, IsAll K w l vs → l[i]? = some d → ∃ v, vs[i]? = some v ∧ Is K w d v
  | _, _, _, _, .nil, e => by simp at e
  | _, _, 0, d, .cons h _, e => by simp at e; subst e; exact ⟨_, rfl, h⟩
  | _, _, i + 1, d, .cons _ t, e => by
    obtain ⟨v, h1, h2⟩ := IsAll.get (i := i) (d := d) t (by simpa using e)
    exact ⟨v, by simpa using h1, h2⟩
theorem IsAll.getV {K : PySem.W.Frag} : ∀ {l : List D} {vs : List V} {i : Nat} {v : V}, IsAll K w l vs → vs[i]? = some v → ∃ d, l[i]? = some d ∧ Is K w d v
  | _, _, _, _, .nil, e => by simp at e
  | _, _, 0, d, .cons h _, e => by simp at e; subst e; exact ⟨_, rfl, h⟩
  | _, _, i + 1, d, .cons _ t, e => by
    obtain ⟨v, h1, h2⟩ := IsAll.getV (i := i) (v := d) t (by simpa using e)
    exact ⟨v, by simpa using h1, h2⟩
theorem IsAll.append {K : PySem.W.Frag} : ∀ {l m : List D} {vs us : List V}, IsAll K w l vs → IsAll K w m us → IsAll K w (l ++ m) (vs ++ us)
  | _, _, _, _, .nil, s => s
  | _, _, _, _, .cons r t, s => .cons r (IsAll.append t s)
theorem IsAll.take {K : PySem.W.Frag} : ∀ {l : List D} {vs : List V} (n : Nat), IsAll K w l vs → IsAll K w (l.take n) (vs.take n)
  | _, _, 0, _ => .nil
  | _, _, _ + 1, .nil => .nil
  | _, _, n + 1, .cons r t => .cons r (IsAll.take n t)
theorem IsAll.drop {K : PySem.W.Frag} : ∀ {l : List D} {vs : List V} (n : Nat), IsAll K w l vs → IsAll K w (l.drop n) (vs.drop n)
  | _, _, 0, r => r
  | _, _, _ + 1, .nil => .nil
  | _, _, n + 1, .cons _ t => IsAll.drop n t
theorem IsAll.reverse {K : PySem.W.Frag} {l : List D} {vs : List V} (h : IsAll K w l vs) : IsAll K w l.reverse vs.reverse := by
  induction l generalizing vs with
  | nil => cases h; exact .nil
  | cons d l ih =>
    cases h with
    | cons h t => rw [List.reverse_cons, List.reverse_cons]; exact (ih t).append (.cons h .nil)
theorem IsAll.set {K : PySem.W.Frag} {d : D} {v : V} (h : Is K w d v) : ∀ {l : List D} {vs : List V} (i : Nat), IsAll K w l vs → IsAll K w (l.set i d) (vs.set i v)
  | _, _, _, .nil => .nil
  | _, _, 0, .cons _ t => .cons h t
  | _, _, i + 1, .cons q t => .cons q (IsAll.set h i t)
theorem IsAll.ints {K : PySem.W.Frag} : ∀ {ns : List Int} {vs : List V}, IsAll K w (ns.map D.int) vs → vs = ns.map V.int
  | [], _, h => by cases h; rfl
  | n :: ns, _, h => by
    rw [List.map_cons] at h
    cases h with
    | cons h t => cases h; rw [IsAll.ints t]; rfl
theorem IsAll.of_ints {K : PySem.W.Frag} : ∀ (ns : List Int), IsAll K w (ns.map D.int) (ns.map V.int)
  | [] => .nil
  | n :: ns => .cons (.int n) (IsAll.of_ints ns)
theorem IsAll.bls {K : PySem.W.Frag} : ∀ {ns : List Bool} {vs : List V}, IsAll K w (ns.map D.bl) vs → vs = ns.map V.bl
  | [], _, h => by cases h; rfl
  | n :: ns, _, h => by
    rw [List.map_cons] at h
    cases h with
    | cons h t => cases h; rw [IsAll.bls t]; rfl
end

/-! ### what is wanted of an answer -/
/-- an exception's own dict -/
def XIs (K : PySem.W.Frag) (w : Wd) (fs : List (Str × D)) (oa : Option Addr) : Prop := match fs with
  | [] => oa = none
  | fs => ∃ d fv, oa = some d ∧ w.H d = some (.xd fv) ∧ FsIs K w fs fv
def PostG {α β : Type} (G : Sg) (I : Wd → α → β → Prop) (w : Wd) (E : XK) (r : Res α) (Q : β → Hp → Prop) : Prop := match r with
  | .ok a M' => ∀ w' b, w'.Ok G → Fut w w' → w'.M = M' → I w' a b → Q b w'.H
  | .exc C fs M' => ∀ w' oa, w'.Ok G → Fut w w' → w'.M = M' → XIs G.K w' fs oa → E (.ref (He.ga G.K C)) oa w'.H
  | .bad => False
section
variable {α β γ δ : Type} {G : Sg} {w w' : Wd} {E : XK}
theorem PostG.fut {I : Wd → α → β → Prop} {r : Res α} {Q : β → Hp → Prop} (h : PostG G I w E r Q) (ok' : w'.Ok G) (f : Fut w w') : PostG G I w' E r Q := by
  cases r with
  | ok a M' => exact fun w2 b ok2 f2 e i => h w2 b ok2 (f.trans ok' f2) e i
  | exc C fs M' => exact fun w2 b ok2 f2 e i => h w2 b ok2 (f.trans ok' f2) e i
  | bad => exact h
/-- an answer, then what goes on with it -/
theorem PostG.bind {I : Wd → α → β → Prop} {J : Wd → γ → δ → Prop} {r : Res α} {k : α → Mem → Res γ} {Q : δ → Hp → Prop} (h : PostG G J w E (r.bind k) Q) :
    PostG G I w E r fun b H1 => ∃ w1 a, w1.H = H1 ∧ w1.Ok G ∧ Fut w w1 ∧ r = .ok a w1.M ∧ I w1 a b ∧ PostG G J w1 E (k a w1.M) Q := by
  cases r with
  | ok a M' =>
    intro w1 b ok1 f e i
    subst e
    exact ⟨w1, a, rfl, ok1, f, rfl, i, PostG.fut h ok1 f⟩
  | exc C fs M' => exact fun w1 oa ok1 f e i => h w1 oa ok1 f e i
  | bad => exact h
theorem PostG.now {I : Wd → α → β → Prop} {a : α} {Q : β → Hp → Prop} {b : β} (h : PostG G I w E (.ok a w.M) Q) (ok : w.Ok G) (i : I w a b) : Q b w.H := h w b ok (Fut.refl w) rfl i
theorem PostG.imp {I : Wd → α → β → Prop} {r : Res α} {Q Q' : β → Hp → Prop} (h : PostG G I w E r Q) (k : ∀ b H, Q b H → Q' b H) : PostG G I w E r Q' := by
  cases r with
  | ok a M' => exact fun w2 b ok2 f2 e i => k _ _ (h w2 b ok2 f2 e i)
  | exc C fs M' => exact h
  | bad => exact h
end

/-! ### the slots -/
def EnvIs (K : PySem.W.Frag) (w : Wd) (env : Env) (σ : L2.St) : Prop := env.length = σ.length ∧ ∀ (i : Nat) (d : D), env[i]? = some (some d) → ∃ v, σ[i]? = some (some v) ∧ Is K w d v
section
variable {G : Sg} {K : PySem.W.Frag} {w w' : Wd} {env : Env} {σ : L2.St}
theorem EnvIs.mono (ok : w.Ok G) (f : Fut0 w w') (h : EnvIs K w env σ) : EnvIs K w' env σ := ⟨h.1, fun i d e => let ⟨v, a, b⟩ := h.2 i d e; ⟨v, a, b.mono ok f⟩⟩
theorem EnvIs.set {i : Nat} {d : D} {v : V} (h : EnvIs K w env σ) (r : Is K w d v) : EnvIs K w (env.set i (some d)) (σ.set i (some v)) := by
  refine ⟨by simp [h.1], fun j e q => ?_⟩
  by_cases hj : i = j
  · subst hj
    have hl : i < env.length := by have := lt_of_some q; simpa using this
    rw [List.getElem?_set_self hl] at q
    cases q
    exact ⟨v, by rw [List.getElem?_set_self (by rw [← h.1]; exact hl)], r⟩
  · rw [List.getElem?_set_ne hj] at q
    obtain ⟨u, a, b⟩ := h.2 j e q
    exact ⟨u, by rw [List.getElem?_set_ne hj]; exact a, b⟩
end

/-! ### a function of the data layer as a reading of the hand layer -/
abbrev Fe := Env → Mem → Res D
def tG {α β : Type} (G : Sg) (E : XK) (I : Wd → α → β → Prop) (f : Env → Mem → Res α) : L2.St → Hp → (β → Hp → Prop) → Prop := fun σ H Q =>
  ∃ w env, w.H = H ∧ w.Ok G ∧ EnvIs G.K w env σ ∧ PostG G I w E (f env w.M) Q
abbrev tE (G : Sg) (E : XK) (f : Fe) : TE := tG G E (Is G.K) f
abbrev tT (G : Sg) (E : XK) (f : Env → Mem → Res Bool) : TT := tG G E (fun _ a b => a = b) f
abbrev tA (G : Sg) (E : XK) (f : Env → Mem → Res (List D)) : TA := tG G E (IsAll G.K) f
abbrev sg (X : Cx) : Sg := ⟨X.K, X.prog, X.w⟩
section
variable {X : Cx} {e : Expr}
theorem _root_.L2.PE.weak {t t' : TE} (h : PE X e t) (k : ∀ σ H Q, t' σ H Q → t σ H Q) : PE X e t' := ⟨fun pins s σ H Q I q => h.run pins s σ H Q I (k σ H Q q)⟩
theorem _root_.L2.PT.weak {t t' : TT} (h : PT X e t) (k : ∀ σ H Q, t' σ H Q → t σ H Q) : PT X e t' := ⟨fun pins s σ H Q I q => h.run pins s σ H Q I (k σ H Q q)⟩
theorem _root_.L2.PA.weak {es : List Expr} {t t' : TA} (h : PA X es t) (k : ∀ σ H Q, t' σ H Q → t σ H Q) : PA X es t' := ⟨fun pos pins s σ H Q I q => h.run pos pins s σ H Q I (k σ H Q q)⟩
theorem _root_.L2.PS.weak {st : Stmt} {t t' : TS} (h : PS X st t) (k : ∀ D σ H, t' D σ H → t D σ H) : PS X st t' := ⟨fun pins s σ H D I q => h.run pins s σ H D I (k D σ H q)⟩
theorem _root_.L2.PSs.weak {st : List Stmt} {t t' : TS} (h : PSs X st t) (k : ∀ D σ H, t' D σ H → t D σ H) : PSs X st t' := ⟨fun pins s σ H D I q => h.run pins s σ H D I (k D σ H q)⟩
theorem _root_.L2.PI.weak {tg : Expr} {t t' : TI} (h : PI X tg e t) (k : ∀ σ H Q, t' σ H Q → t σ H Q) : PI X tg e t' := ⟨fun pins s σ H Q I q => h.run pins s σ H Q I (k σ H Q q)⟩
theorem _root_.L2.PG.weak {t t' : TG} (h : PG X e t) (k : ∀ v σ H Q, t' v σ H Q → t v σ H Q) : PG X e t' := ⟨fun pins s σ H v u Q I r q => h.run pins s σ H v u Q I r (k v σ H Q q)⟩
end
end Dl

set_option maxHeartbeats 1000000
/-! The data layer, part C: steps of worlds. -/
namespace Dl
open PySem PySem.Spec PyProof.Rows L2

section
variable {G : Sg} {w w' : Wd}
theorem ObjIs.mono (ok : w.Ok G) (f : Fut0 w w') {o : MO} {a : Addr} (e : w'.H a = w.H a) (h : ObjIs G w o a) : ObjIs G w' o a := by
  cases o with
  | lst l => obtain ⟨vs, h1, h2⟩ := h; exact ⟨vs, by rw [e]; exact h1, h2.mono ok f⟩
  | dic l => obtain ⟨xs, h1, h2, h3, h4, h5⟩ := h; exact ⟨xs, by rw [e]; exact h1, h2, h3, h4, h5.mono ok f⟩
  | lck l => obtain ⟨q, xs, h1, h2, h3, h4, h5⟩ := h; exact ⟨q, xs, by rw [e]; exact h1, h2, h3, h4, h5.mono ok f⟩
  | ins C fs => obtain ⟨dx, fv, h1, h2⟩ := h; exact ⟨dx, fv, by rw [e]; exact h1, h2.mono ok f⟩
theorem Wd.Ok.ne_fresh (ok : w.Ok G) {p : Addr} (hp : w.H p = none) {m : Nat} (hm : m < w.M.length) : w.rhW m ≠ p := fun e => ok.here m hm (by rw [e]; exact hp)
/-- an object at a fresh place, outside of the memory -/
theorem Wd.Ok.add (ok : w.Ok G) {p : Addr} (hp : w.H p = none) (o : HO) : Fut w ⟨w.rhW, w.F, w.M, upd w.H p o⟩ ∧ (⟨w.rhW, w.F, w.M, upd w.H p o⟩ : Wd).Ok G := by
  have f : Fut w ⟨w.rhW, w.F, w.M, upd w.H p o⟩ := ⟨⟨fun _ _ => rfl, Nat.le_refl _, fun _ h => h, fun a s => upd_ne fun e => s.1 (by rw [e]; exact hp), fun _ h => h, fun _ _ h => h⟩, fun m h1 h2 => absurd h2 (Nat.not_lt.mpr h1), fun a h => .inl h⟩
  refine ⟨f, ok.inj, fun m hm => ?_, fun m o' hm => ?_, fun a h => ?_⟩
  · show upd w.H p o (w.rhW m) ≠ none
    rw [upd_ne (ok.ne_fresh hp hm)]; exact ok.here m hm
  · obtain ⟨h1, h2⟩ := ok.obj m o' hm
    exact ⟨h1.mono ok f.toFut0 (upd_ne (ok.ne_fresh hp (lt_of_some hm))), h2⟩
  · show upd w.H p o a ≠ none
    rw [upd_ne fun e => ok.frz a h (by rw [e]; exact hp)]; exact ok.frz a h
/-- a thing that stands outside of the memory -/
structure Apart (w : Wd) (p : Addr) (o : HO) : Prop where
  at_ : w.H p = some o
  nt : ∀ vs, o ≠ .tup vs
  noF : ¬ w.F p
  out : ∀ m, m < w.M.length → w.rhW m ≠ p
theorem Apart.still {p : Addr} {o : HO} (h : Apart w p o) : Still w p := ⟨by rw [h.at_]; exact (fun z => nomatch z), fun m o hm _ => h.out m (lt_of_some hm)⟩
theorem Apart.fut {p : Addr} {o : HO} (h : Apart w p o) (f : Fut w w') : Apart w' p o := by
  refine ⟨by rw [f.same p h.still]; exact h.at_, h.nt, fun z => (f.frzN p z).elim h.noF fun z => z h.still, fun m hm e => ?_⟩
  by_cases hl : m < w.M.length
  · rw [f.rho m hl] at e; exact h.out m hl e
  · have q := f.new m (Nat.not_lt.mp hl) hm
    rw [e, h.at_] at q; cases q
theorem Wd.Ok.wr (ok : w.Ok G) {p : Addr} {o u : HO} (h : Apart w p o) (hu : ∀ vs, u ≠ .tup vs) : Keep w ⟨w.rhW, w.F, w.M, upd w.H p u⟩ ∧ (⟨w.rhW, w.F, w.M, upd w.H p u⟩ : Wd).Ok G ∧ Apart ⟨w.rhW, w.F, w.M, upd w.H p u⟩ p u := by
  have k : Keep w ⟨w.rhW, w.F, w.M, upd w.H p u⟩ := ⟨fun _ _ => rfl, Nat.le_refl _, fun _ h => h, fun a s z => upd_ne fun e => by
    subst e
    rcases z with ⟨vs, z⟩ | z
    · rw [h.at_] at z; exact h.nt vs (Option.some.inj z)
    · exact h.noF z⟩
  refine ⟨k, ⟨ok.inj, fun m hm => ?_, fun m o' hm => ?_, fun a z => ?_⟩, upd_same, hu, h.noF, h.out⟩
  · show upd w.H p u (w.rhW m) ≠ none
    rw [upd_ne (h.out m hm)]; exact ok.here m hm
  · obtain ⟨h1, h2⟩ := ok.obj m o' hm
    have e := upd_ne (H := w.H) (o := u) (h.out m (lt_of_some hm))
    refine ⟨?_, h2⟩
    cases o' with
    | lst l => obtain ⟨vs, h1, h2⟩ := h1; exact ⟨vs, by show upd w.H p u _ = _; rw [e]; exact h1, h2.keep ok k⟩
    | dic l => obtain ⟨xs, h1, h2, h3, h4, h5⟩ := h1; exact ⟨xs, by show upd w.H p u _ = _; rw [e]; exact h1, h2, h3, h4, h5.keep ok k⟩
    | lck l => obtain ⟨q, xs, h1, h2, h3, h4, h5⟩ := h1; exact ⟨q, xs, by show upd w.H p u _ = _; rw [e]; exact h1, h2, h3, h4, h5.keep ok k⟩
    | ins C fs => obtain ⟨dx, fv, h1, h2⟩ := h1; exact ⟨dx, fv, by show upd w.H p u _ = _; rw [e]; exact h1, h2.keep ok k⟩
  · show upd w.H p u a ≠ none
    rw [upd_ne fun e => h.noF (by rw [← e]; exact z)]; exact ok.frz a z
theorem Wd.Ok.wr_fut {w0 : Wd} {p : Addr} {u : HO} (f0 : Fut w0 w) (h0 : w0.H p = none) : Fut w0 ⟨w.rhW, w.F, w.M, upd w.H p u⟩ :=
  ⟨⟨f0.rho, f0.len, f0.frz, fun a s => by show upd w.H p u a = _; rw [upd_ne fun e => s.1 (by rw [e]; exact h0)]; exact f0.same a s, f0.dead, f0.lck⟩, f0.new, f0.frzN⟩
/-- what is at p, outside of the memory and new since w0, is frozen -/
theorem Wd.Ok.freeze (ok : w.Ok G) {p : Addr} (hp : ∀ m, m < w.M.length → w.rhW m ≠ p) (hn : w.H p ≠ none) {w0 : Wd} (f0 : Fut w0 w) (h0 : w0.H p = none) : Fut0 w ⟨w.rhW, fun a => w.F a ∨ a = p, w.M, w.H⟩ ∧ Fut w0 ⟨w.rhW, fun a => w.F a ∨ a = p, w.M, w.H⟩ ∧ (⟨w.rhW, fun a => w.F a ∨ a = p, w.M, w.H⟩ : Wd).Ok G := by
  have f : Fut0 w ⟨w.rhW, fun a => w.F a ∨ a = p, w.M, w.H⟩ := ⟨fun _ _ => rfl, Nat.le_refl _, fun _ h => .inl h, fun a s => rfl, fun _ h => h, fun _ _ h => h⟩
  refine ⟨f, ⟨⟨f0.rho, f0.len, fun a h => .inl (f0.frz a h), f0.same, f0.dead, f0.lck⟩, f0.new, fun a h => h.elim (f0.frzN a) fun e => .inr fun s => s.1 (by rw [e]; exact h0)⟩, ok.inj, ok.here, fun m o' hm => ?_, fun a h => h.elim (ok.frz a) fun e => by rw [e]; exact hn⟩
  obtain ⟨h1, h2⟩ := ok.obj m o' hm
  exact ⟨h1.mono ok f rfl, ⟨fun z => z.elim h2.mp fun e => absurd e (hp m (lt_of_some hm)), fun z => .inl (h2.mpr z)⟩⟩
/-- the world with one more thing in the memory, that stands at p -/
def Wd.push (w : Wd) (p : Addr) (o : MO) : Wd := ⟨fun m => if m = w.M.length then p else w.rhW m, w.F, w.M ++ [some o], w.H⟩
theorem push_old {p : Addr} {o : MO} {m : Nat} (hm : m < w.M.length) : (w.push p o).rhW m = w.rhW m := if_neg (Nat.ne_of_lt hm)
theorem push_last {p : Addr} {o : MO} : (w.push p o).rhW w.M.length = p := if_pos rfl
theorem push_len {p : Addr} {o : MO} : (w.push p o).M.length = w.M.length + 1 := by simp [Wd.push]
theorem push_get {p : Addr} {o : MO} {m : Nat} (hm : m < w.M.length) : (w.push p o).M[m]? = w.M[m]? := List.getElem?_append_left hm
theorem push_fut0 {p : Addr} {o : MO} : Fut0 w (w.push p o) := ⟨fun m hm => push_old hm, by rw [push_len]; exact Nat.le_succ _, fun a h => h, fun a _ => rfl, fun m h => by rw [push_get (lt_of_some h)]; exact h, fun m l h => by rw [push_get (lt_of_some h)]; exact h⟩
/-- what is at p, outside of the memory, comes into it -/
theorem Wd.Ok.alloc (ok : w.Ok G) {p : Addr} {o : MO} (hp : ∀ m, m < w.M.length → w.rhW m ≠ p) (hF : ¬ w.F p) (hn : w.H p ≠ none) {w0 : Wd} (f0 : Fut w0 w) (h0 : w0.H p = none) (ho : ObjIs G w o p) (hk : o.isLck = false := by rfl) :
    Fut w0 (w.push p o) ∧ (w.push p o).Ok G ∧ Is G.K (w.push p o) (.adr w.M.length) (.ref p) := by
  refine ⟨⟨⟨fun m hm => (push_old (Nat.lt_of_lt_of_le hm f0.len)).trans (f0.rho m hm), by rw [push_len]; exact Nat.le_succ_of_le f0.len, fun a h => f0.frz a h, fun a s => f0.same a s, fun m h => ?_, fun m l h => ?_⟩, fun m h1 h2 => ?_, f0.frzN⟩, ⟨fun m n hm hn' e => ?_, fun m hm => ?_, fun m o' hm => ?_, ok.frz⟩, ?_⟩
  · rw [push_get (Nat.lt_of_lt_of_le (lt_of_some h) f0.len)]; exact f0.dead m h
  · rw [push_get (Nat.lt_of_lt_of_le (lt_of_some h) f0.len)]; exact f0.lck m l h
  · rw [push_len] at h2
    by_cases hm : m < w.M.length
    · rw [push_old hm]; exact f0.new m h1 hm
    · have : m = w.M.length := by omega
      subst this
      rw [push_last]; exact h0
  · rw [push_len] at hm hn'
    by_cases a : m < w.M.length
    · by_cases b : n < w.M.length
      · rw [push_old a, push_old b] at e; exact ok.inj m n a b e
      · have : n = w.M.length := by omega
        subst this
        rw [push_old a, push_last] at e; exact absurd e (hp m a)
    · have : m = w.M.length := by omega
      subst this
      by_cases b : n < w.M.length
      · rw [push_old b, push_last] at e; exact absurd e.symm (hp n b)
      · omega
  · rw [push_len] at hm
    show w.H ((w.push p o).rhW m) ≠ none
    by_cases a : m < w.M.length
    · rw [push_old a]; exact ok.here m a
    · have : m = w.M.length := by omega
      subst this
      rw [push_last]; exact hn
  · have hl := lt_of_some hm
    rw [push_len] at hl
    by_cases a : m < w.M.length
    · rw [push_get a] at hm
      obtain ⟨h1, h2⟩ := ok.obj m o' hm
      rw [push_old a]
      exact ⟨h1.mono ok push_fut0 rfl, h2⟩
    · have : m = w.M.length := by omega
      subst this
      have e : o' = o := by
        have : (w.M ++ [some o])[w.M.length]? = some (some o') := hm
        rw [List.getElem?_append_right (Nat.le_refl _)] at this
        simpa using this.symm
      subst e
      rw [push_last]
      exact ⟨ho.mono ok push_fut0 rfl, ⟨fun z => absurd z hF, fun z => by rw [hk] at z; cases z⟩⟩
  · have h := Is.adr (K := G.K) (w := w.push p o) (n := w.M.length) (by rw [push_len]; exact Nat.lt_succ_self _)
    rw [push_last] at h
    exact h
/-- a thing of the memory changes -/
def Wd.put (w : Wd) (m : Nat) (o : MO) (ho : HO) : Wd := ⟨w.rhW, w.F, w.M.set m (some o), upd w.H (w.rhW m) ho⟩
theorem Wd.Ok.put_fut (ok : w.Ok G) {m : Nat} {o o' : MO} {ho : HO} (hm : w.M[m]? = some (some o)) (hk : o.isLck = false := by rfl) : Fut w (w.put m o' ho) := by
  have hl := lt_of_some hm
  refine ⟨⟨fun _ _ => rfl, by simp [Wd.put], fun a h => h, fun a s => upd_ne (fun e => s.2 m o hm hk e.symm), fun n h => ?_, fun n l h => ?_⟩, fun n h1 h2 => ?_, fun a h => .inl h⟩
  · show (w.M.set m (some o'))[n]? = some none
    rw [List.getElem?_set_ne (fun e => by subst e; rw [hm] at h; cases h)]; exact h
  · show (w.M.set m (some o'))[n]? = some (some (.lck l))
    rw [List.getElem?_set_ne (fun e => by subst e; rw [hm] at h; cases h; cases hk)]; exact h
  · have : n < w.M.length := by simpa [Wd.put] using h2
    exact absurd this (Nat.not_lt.mpr h1)
theorem Wd.Ok.put (ok : w.Ok G) {m : Nat} {o o' : MO} {ho : HO} (hm : w.M[m]? = some (some o)) (h : ObjIs G (w.put m o' ho) o' (w.rhW m)) (hk : o.isLck = false := by rfl) (hk' : o'.isLck = false := by rfl) : (w.put m o' ho).Ok G := by
  have hl := lt_of_some hm
  have f := ok.put_fut (o' := o') (ho := ho) hm hk
  have len : (w.put m o' ho).M.length = w.M.length := by simp [Wd.put]
  refine ⟨fun a b ha hb e => ok.inj a b (by rw [← len]; exact ha) (by rw [← len]; exact hb) e, fun n hn => ?_, fun n o2 hn => ?_, fun a h => ?_⟩
  · show upd w.H (w.rhW m) ho (w.rhW n) ≠ none
    by_cases e : w.rhW n = w.rhW m
    · rw [e, upd_same]; exact fun z => nomatch z
    · rw [upd_ne e]; exact ok.here n (by rw [← len]; exact hn)
  · by_cases e : m = n
    · subst e
      have : o2 = o' := by
        have h2 : (w.M.set m (some o'))[m]? = some (some o2) := hn
        rw [List.getElem?_set_self hl] at h2
        exact (Option.some.inj (Option.some.inj h2)).symm
      subst this
      exact ⟨h, ⟨fun z => absurd ((ok.obj m o hm).2.mp z) (by rw [hk]; exact Bool.false_ne_true), fun z => absurd z (by rw [hk']; exact Bool.false_ne_true)⟩⟩
    · have h2 : w.M[n]? = some (some o2) := by
        have h3 : (w.M.set m (some o'))[n]? = some (some o2) := hn
        rw [List.getElem?_set_ne e] at h3; exact h3
      obtain ⟨h3, h4⟩ := ok.obj n o2 h2
      exact ⟨h3.mono ok f.toFut0 (upd_ne fun q => e (ok.inj m n hl (lt_of_some h2) q.symm)), h4⟩
  · show upd w.H (w.rhW m) ho a ≠ none
    rw [upd_ne fun e => absurd ((ok.obj m o hm).2.mp (by rw [← e]; exact h)) (by rw [hk]; exact Bool.false_ne_true)]; exact ok.frz a h
/-- a list of the memory is frozen -/
theorem Wd.Ok.still (ok : w.Ok G) {m : Nat} {l : List D} (hm : w.M[m]? = some (some (.lst l))) :
    Fut w ⟨w.rhW, fun a => w.F a ∨ a = w.rhW m, w.M.set m none, w.H⟩ ∧ (⟨w.rhW, fun a => w.F a ∨ a = w.rhW m, w.M.set m none, w.H⟩ : Wd).Ok G ∧ Is G.K ⟨w.rhW, fun a => w.F a ∨ a = w.rhW m, w.M.set m none, w.H⟩ (.lst l) (.ref (w.rhW m)) := by
  have hl := lt_of_some hm
  have f : Fut w ⟨w.rhW, fun a => w.F a ∨ a = w.rhW m, w.M.set m none, w.H⟩ := ⟨⟨fun _ _ => rfl, by simp, fun _ h => .inl h, fun a s => rfl, fun n h => by
    by_cases e : m = n
    · subst e; exact List.getElem?_set_self hl
    · show (w.M.set m none)[n]? = some none
      rw [List.getElem?_set_ne e]; exact h, fun n l h => by
    by_cases e : m = n
    · subst e; rw [hm] at h; cases h
    · show (w.M.set m none)[n]? = some (some (.lck l))
      rw [List.getElem?_set_ne e]; exact h⟩, fun n h1 h2 => by
    have : n < w.M.length := by simpa using h2
    exact absurd this (Nat.not_lt.mpr h1), fun a h => h.elim .inl fun e => .inr fun s => s.2 m _ hm rfl e.symm⟩
  refine ⟨f, ⟨fun a b ha hb e => ok.inj a b (by simpa using ha) (by simpa using hb) e, fun n hn => ok.here n (by simpa using hn), fun n o2 hn => ?_, fun a h => h.elim (ok.frz a) fun e => by rw [e]; exact ok.here m hl⟩, ?_⟩
  · have hne : m ≠ n := fun e => by
      subst e
      have h2 : (w.M.set m none)[m]? = some (some o2) := hn
      rw [List.getElem?_set_self hl] at h2
      cases h2
    have h2 : w.M[n]? = some (some o2) := by
      have h3 : (w.M.set m none)[n]? = some (some o2) := hn
      rw [List.getElem?_set_ne hne] at h3; exact h3
    obtain ⟨h3, h4⟩ := ok.obj n o2 h2
    refine ⟨h3.mono ok f.toFut0 rfl, ⟨fun z => z.elim h4.mp fun e => absurd (ok.inj m n hl (lt_of_some h2) e.symm) hne, fun z => .inl (h4.mpr z)⟩⟩
  · obtain ⟨vs, h1, h2⟩ := (ok.obj m _ hm).1
    exact .lst (.inr rfl) h1 (h2.mono ok f.toFut0)

/-! ### reading lists, tuples -/
@[simp] def asL (M : Mem) : D → Option (List D)
  | .lst l => some l
  | .adr n => (match M[n]? with
    | some (some (.lst l)) => some l
    | _ => none)
  | _ => none
/-- a list whatever it is: the script too -/
@[simp] def asR (M : Mem) : D → Option (List D)
  | .scr l => some (l.map .int)
  | d => asL M d
@[simp] def asT : D → Option (List D)
  | .tup l => some l
  | _ => none
theorem asL_is (ok : w.Ok G) {d : D} {v : V} {l : List D} (h : Is G.K w d v) (e : asL w.M d = some l) : ∃ a vs, v = .ref a ∧ w.H a = some (.lst vs) ∧ IsAll G.K w l vs := by
  cases h with
  | lst h0 h1 h2 => cases e; exact ⟨_, _, rfl, h1, h2⟩
  | @adr n hn =>
    have e2 : (match w.M[n]? with
      | some (some (.lst l)) => some l
      | _ => none) = some l := e
    split at e2
    · rename_i l2 hm
      cases e2
      obtain ⟨vs, h1, h2⟩ := (ok.obj _ _ hm).1
      exact ⟨_, _, rfl, h1, h2⟩
    · cases e2
  | _ => cases e
theorem asR_is (ok : w.Ok G) {d : D} {v : V} {l : List D} (h : Is G.K w d v) (e : asR w.M d = some l) : ∃ a vs, v = .ref a ∧ SqL G.K w.H a vs ∧ IsAll G.K w l vs := by
  have other : asL w.M d = some l → ∃ a vs, v = .ref a ∧ SqL G.K w.H a vs ∧ IsAll G.K w l vs := fun e => by
    obtain ⟨a, vs, h1, h2, h3⟩ := asL_is ok h e
    exact ⟨a, vs, h1, .inl (.inl h2), h3⟩
  cases d with
  | scr ns => cases e; cases h with
    | scr h => exact ⟨_, _, rfl, h.elim (·.2.1) (fun h => h w.H), IsAll.of_ints ns⟩
  | _ => exact other e
theorem asT_is {K : PySem.W.Frag} {d : D} {v : V} {l : List D} (h : Is K w d v) (e : asT d = some l) : ∃ a vs, v = .ref a ∧ w.H a = some (.tup vs) ∧ IsAll K w l vs := by
  cases d with
  | tup l' => cases e; cases h with
    | tup h1 h2 => exact ⟨_, _, rfl, h1, h2⟩
  | _ => cases e

/-! ### reading data -/
mutual
/-- plain data without anything of the memory -/
def py0 : D → Option PyData
  | .non => some .none
  | .bl b => some (.bool b)
  | .int i => some (.int i)
  | .str x => some (.str x)
  | .tup l => (py0s l).map .tuple
  | .lst l => (py0s l).map .list
  | _ => none
def py0s : List D → Option (List PyData)
  | [] => some []
  | d :: r => match py0 d, py0s r with
    | some x, some y => some (x :: y)
    | _, _ => none
end
mutual
def py (M : Mem) : D → Option PyData
  | .non => some .none
  | .bl b => some (.bool b)
  | .int i => some (.int i)
  | .str x => some (.str x)
  | .tup l => (pys M l).map .tuple
  | .lst l => (pys M l).map .list
  | .adr n => (match M[n]? with
    | some (some (.lst l)) => (py0s l).map .list
    | _ => none)
  | _ => none
def pys (M : Mem) : List D → Option (List PyData)
  | [] => some []
  | d :: r => match py M d, pys M r with
    | some x, some y => some (x :: y)
    | _, _ => none
end
mutual
theorem py0_dp {K : PySem.W.Frag} : ∀ (d : D) (v : V) (p : PyData), Is K w d v → py0 d = some p → Dp K w.H v p
  | .non, _, _, h, e => by cases h; cases e; exact .non
  | .bl b, _, _, h, e => by cases h; cases e; exact .bl b
  | .int b, _, _, h, e => by cases h; cases e; exact .int b
  | .str b, _, _, h, e => by cases h; cases e; exact .str b
  | .tup l, _, _, h, e => by
    cases h with
    | tup h1 h2 =>
      rw [py0] at e
      obtain ⟨ps, e1, rfl⟩ := Option.map_eq_some_iff.mp e
      exact .tup (.inl (.inl h1)) (py0s_dp l _ _ h2 e1)
  | .lst l, _, _, h, e => by
    cases h with
    | lst h0 h1 h2 =>
      rw [py0] at e
      obtain ⟨ps, e1, rfl⟩ := Option.map_eq_some_iff.mp e
      exact .lst (.inl (.inl h1)) (py0s_dp l _ _ h2 e1)
  | .adr _, _, _, _, e => by cases e
  | .fn _, _, _, _, e => by cases e
  | .ty _, _, _, _, e => by cases e
  | .scr _, _, _, _, e => by cases e
theorem py0s_dp {K : PySem.W.Frag} : ∀ (l : List D) (vs : List V) (ps : List PyData), IsAll K w l vs → py0s l = some ps → DpAll K w.H vs ps
  | [], _, _, h, e => by cases h; cases e; exact .nil
  | d :: r, _, _, h, e => by
    cases h with
    | cons h1 h2 =>
      rw [py0s] at e
      split at e
      · rename_i x y e1 e2
        cases e
        exact .cons (py0_dp d _ x h1 e1) (py0s_dp r _ y h2 e2)
      · cases e
end
mutual
theorem py_dp (ok : w.Ok G) : ∀ (d : D) (v : V) (p : PyData), Is G.K w d v → py w.M d = some p → Dp G.K w.H v p
  | .non, _, _, h, e => by cases h; cases e; exact .non
  | .bl b, _, _, h, e => by cases h; cases e; exact .bl b
  | .int b, _, _, h, e => by cases h; cases e; exact .int b
  | .str b, _, _, h, e => by cases h; cases e; exact .str b
  | .tup l, _, _, h, e => by
    cases h with
    | tup h1 h2 =>
      rw [py] at e
      obtain ⟨ps, e1, rfl⟩ := Option.map_eq_some_iff.mp e
      exact .tup (.inl (.inl h1)) (pys_dp ok l _ _ h2 e1)
  | .lst l, _, _, h, e => by
    cases h with
    | lst h0 h1 h2 =>
      rw [py] at e
      obtain ⟨ps, e1, rfl⟩ := Option.map_eq_some_iff.mp e
      exact .lst (.inl (.inl h1)) (pys_dp ok l _ _ h2 e1)
  | .adr n, _, _, h, e => by
    cases h with
    | adr hn =>
      rw [py] at e
      split at e
      · rename_i l hm
        obtain ⟨ps, e1, rfl⟩ := Option.map_eq_some_iff.mp e
        obtain ⟨vs, h1, h2⟩ := (ok.obj _ _ hm).1
        exact .lst (.inl (.inl h1)) (py0s_dp l _ _ h2 e1)
      · cases e
  | .fn _, _, _, _, e => by cases e
  | .ty _, _, _, _, e => by cases e
  | .scr _, _, _, _, e => by cases e
theorem pys_dp (ok : w.Ok G) : ∀ (l : List D) (vs : List V) (ps : List PyData), IsAll G.K w l vs → pys w.M l = some ps → DpAll G.K w.H vs ps
  | [], _, _, h, e => by cases h; cases e; exact .nil
  | d :: r, _, _, h, e => by
    cases h with
    | cons h1 h2 =>
      rw [pys] at e
      split at e
      · rename_i x y e1 e2
        cases e
        exact .cons (py_dp ok d _ x h1 e1) (pys_dp ok r _ y h2 e2)
      · cases e
end
end
end Dl

set_option maxHeartbeats 1000000
/-! The data layer, part D: expressions: names, constants, operators, comparisons, tests, displays, subscripts. -/
namespace Dl
open PySem PySem.Spec PyProof.Rows L2

section
variable {G : Sg} {w : Wd} {E : XK}
/-- a new tuple, a new list that never changes -/
theorem post_tup {l : List D} {vs : List V} {Q : VK} (ok : w.Ok G) (h : PostG G (Is G.K) w E (.ok (.tup l) w.M) Q) (r : IsAll G.K w l vs) : ∀ p, w.H p = none → Q (.ref p) (upd w.H p (.tup vs)) := fun p hp => by
  obtain ⟨f, ok1⟩ := ok.add hp (.tup vs)
  exact h _ (.ref p) ok1 f rfl (.tup upd_same (r.mono ok f.toFut0))
theorem post_lst {l : List D} {vs : List V} {Q : VK} (ok : w.Ok G) (h : PostG G (Is G.K) w E (.ok (.lst l) w.M) Q) (r : IsAll G.K w l vs) : ∀ p, w.H p = none → Q (.ref p) (upd w.H p (.lst vs)) := fun p hp => by
  obtain ⟨f, ok1⟩ := ok.add hp (.lst vs)
  obtain ⟨f2, f3, ok2⟩ := ok1.freeze (p := p) (fun m hm => ok.ne_fresh hp hm) (by show upd w.H p (.lst vs) p ≠ none; rw [upd_same]; exact fun z => nomatch z) f hp
  exact h _ (.ref p) ok2 f3 rfl (.lst (.inr rfl) upd_same ((r.mono ok f.toFut0).mono ok1 f2))
end

section
variable {X : Cx} {E : XK}
/-! ### names, constants -/
@[simp] def eV (i : Nat) : Fe := fun env M => match env[i]? with
  | some (some d) => .ok d M
  | _ => .bad
@[simp] def eC (d : D) : Fe := fun _ M => .ok d M
theorem de_var (i : Nat) {x : Str} {pos : Pos} (hN : X.N[i]? = some x := by rfl) (hv : Vis X.env.scope x := by first | exact Or.inl rfl | exact Or.inr (Or.inl rfl) | exact Or.inr (Or.inr rfl)) (hd : (x == ("__debug__" : Str)) = false := by decide)
    (hcd : (x == ("__classdict__" : Str)) = false := by decide) : PE X (.Name x pos) (tE (sg X) E (eV i)) := (pe_var hN hv hd hcd).weak fun σ H Q h => by
  obtain ⟨w, env, rfl, ok, en, h⟩ := h
  unfold eV at h
  split at h
  · rename_i d e
    obtain ⟨v, e1, i1⟩ := en.2 i d e
    exact ⟨v, e1, h.now ok i1⟩
  · exact h.elim
theorem const_weak {d : D} {v : V} (hc : ∀ w, Is X.K w d v) : ∀ σ H Q, tE (sg X) E (eC d) σ H Q → tC v σ H Q := fun σ H Q h => by
  obtain ⟨w, env, rfl, ok, en, h⟩ := h
  exact PostG.now h ok (hc w)
theorem de_int {i : Int} {j pos} : PE X (.Constant (.int i) j pos) (tE (sg X) E (eC (.int i))) := pe_int.weak (const_weak fun _ => .int i)
theorem de_bl {b j pos} : PE X (.Constant (.bool b) j pos) (tE (sg X) E (eC (.bl b))) := pe_bl.weak (const_weak fun _ => .bl b)
theorem de_non {j pos} : PE X (.Constant .none j pos) (tE (sg X) E (eC .non)) := pe_non.weak (const_weak fun _ => .non)
theorem de_str {x j pos} : PE X (.Constant (.str x) j pos) (tE (sg X) E (eC (.str x))) := pe_str.weak (const_weak fun _ => .str x)
/-- a module's int, text; a def as a value -/
theorem de_gint {x : Str} {i : Int} {pos : Pos} (hg : Gl X x) (hm : ∃ t, X.mg x = some (.int i t)) (hd : (x == ("__debug__" : Str)) = false := by decide) : PE X (.Name x pos) (tE (sg X) E (eC (.int i))) := by
  obtain ⟨t, hm⟩ := hm
  exact (pe_glob (v := .int i) hg hm ⟨t, rfl⟩ hd).weak (const_weak fun _ => .int i)
theorem de_gfn {x : Str} {pos : Pos} (hg : Gl X x) (hm : X.mg x = some (.ref (He.ga X.K x))) (hd : (x == ("__debug__" : Str)) = false := by decide) : PE X (.Name x pos) (tE (sg X) E (eC (.fn x))) :=
  (pe_glob (v := .ref (He.ga X.K x)) hg hm rfl hd).weak (const_weak fun _ => .fn x)

/-! ### two values -/
@[simp] def e2 (k : D → D → Mem → Res D) (fa fb : Fe) : Fe := fun env M => (fa env M).bind fun x M1 => (fb env M1).bind fun y M2 => k x y M2
@[simp] def e1 (k : D → Mem → Res D) (fa : Fe) : Fe := fun env M => (fa env M).bind fun x M1 => k x M1
def Op2 (X : Cx) (E : XK) (r : R2) (k : D → D → Mem → Res D) : Prop := ∀ (w : Wd) (x y : D) (vx vy : V) (Q : VK), w.Ok (sg X) → Is X.K w x vx → Is X.K w y vy → PostG (sg X) (Is X.K) w E (k x y w.M) Q → r vx vy w.H Q
theorem e2_weak {r : R2} {k : D → D → Mem → Res D} {fa fb : Fe} (o : Op2 X E r k) : ∀ σ H Q, tE (sg X) E (e2 k fa fb) σ H Q → tOp r (tE (sg X) E fa) (tE (sg X) E fb) σ H Q := fun σ H Q h => by
  obtain ⟨w, env, rfl, ok, en, h⟩ := h
  refine ⟨w, env, rfl, ok, en, (PostG.bind (I := Is X.K) h).imp ?_⟩
  rintro b _ ⟨w1, a, rfl, ok1, f1, _, i1, h1⟩
  refine ⟨w1, env, rfl, ok1, en.mono ok f1.toFut0, (PostG.bind (I := Is X.K) h1).imp ?_⟩
  rintro c _ ⟨w2, y, rfl, ok2, f2, _, i2, h2⟩
  exact o w2 a y b c Q ok2 (i1.mono ok1 f2.toFut0) i2 h2
variable {a b : Expr} {fa fb : Fe} {pos : Pos}
theorem de_op {op : Operator} {r : R2} {k : D → D → Mem → Res D} (h : OpR X (binaryOp op) r) (o : Op2 X E r k) (ha : PE X a (tE (sg X) E fa)) (hb : PE X b (tE (sg X) E fb)) : PE X (.BinOp a op b pos) (tE (sg X) E (e2 k fa fb)) := (pe_op h ha hb).weak (e2_weak o)
theorem OpR.or {f : Value → Value → Sem Value} {r r' : R2} (h : OpR X f r) (h' : OpR X f r') : OpR X f (fun x y H Q => r x y H Q ∨ r' x y H Q) := fun pins s σ H x y v u Q I rx ry q => q.elim (h pins s σ H x y v u Q I rx ry) (h' pins s σ H x y v u Q I rx ry)

/-- + -/
@[simp] def kAdd (x y : D) (M : Mem) : Res D := match x, y with
  | .int i, .int j => .ok (.int (i + j)) M
  | .tup a, .tup b => if a.length + b.length ≤ sizeLine then .ok (.tup (a ++ b)) M else .bad
  | x, y => match asL M x, asL M y with
    | some a, some b => if a.length + b.length ≤ sizeLine then .ok (.lst (a ++ b)) M else .bad
    | _, _ => .bad
def rAddA (K : PySem.W.Frag) : R2 := fun x y H Q => rI0 (fun i j => .int (i + j)) x y H Q ∨ rCatA K x y H Q ∨ rCat x y H Q
theorem op_addA : OpR X (binaryOp .Add) (rAddA X.K) := OpR.or op_add (OpR.or op_catA op_cat)
theorem IsAll.nil_iff {K : PySem.W.Frag} {w : Wd} {l : List D} {vs : List V} (h : IsAll K w l vs) : vs = [] ↔ l = [] := by cases h <;> simp
theorem o_add : Op2 X E (rAddA X.K) kAdd := fun w x y vx vy Q ok ix iy h => by
  have lists : ∀ {a b : List D}, asL w.M x = some a → asL w.M y = some b → PostG (sg X) (Is X.K) w E (if a.length + b.length ≤ sizeLine then .ok (.lst (a ++ b)) w.M else .bad) Q → rAddA X.K vx vy w.H Q := fun {a b} ea eb h => by
    obtain ⟨pa, va, rfl, ha, ra⟩ := asL_is ok ix ea
    obtain ⟨pb, vb, rfl, hb, rb⟩ := asL_is ok iy eb
    split at h
    · rename_i hl
      exact .inr (.inr ⟨pa, pb, va, vb, rfl, rfl, ha, hb, by rw [ra.length, rb.length]; exact hl, post_lst ok h (ra.append rb)⟩)
    · exact h.elim
  unfold kAdd at h
  split at h
  · cases ix; cases iy
    exact .inl ⟨_, _, rfl, rfl, PostG.now h ok (.int _)⟩
  · rename_i la lb
    split at h
    · rename_i hl
      cases ix with
      | @tup _ p va h1 h2 =>
        cases iy with
        | @tup _ q vb h3 h4 =>
          refine .inr (.inl ⟨p, q, va, vb, rfl, rfl, .inl (.inl h1), .inl (.inl h3), by rw [h2.length, h4.length]; exact hl, fun e => ?_, fun _ e => ?_, fun _ _ => post_tup ok h (h2.append h4)⟩)
          · have e' := h2.nil_iff.mp e
            subst e'
            exact PostG.now h ok (.tup h3 h4)
          · have e' := h4.nil_iff.mp e
            subst e'
            rw [List.append_nil] at h
            exact PostG.now h ok (.tup h1 h2)
    · exact h.elim
  · split at h
    · rename_i ea eb
      exact lists ea eb h
    · exact h.elim
/-- ints alone -/
@[simp] def kI (C : Int → Int → Bool) (g : Int → Int → D) (x y : D) (M : Mem) : Res D := match x, y with
  | .int i, .int j => if C i j then .ok (g i j) M else .bad
  | _, _ => .bad
theorem o_int {C : Int → Int → Bool} {CP : Int → Int → Prop} {g : Int → Int → D} {gv : Int → Int → V} (hC : ∀ i j, C i j = true → CP i j) (hg : ∀ w i j, Is X.K w (g i j) (gv i j)) : Op2 X E (rI CP gv) (kI C g) := fun w x y vx vy Q ok ix iy h => by
  unfold kI at h
  split at h
  · split at h
    · rename_i hc
      cases ix; cases iy
      exact ⟨_, _, rfl, rfl, hC _ _ hc, PostG.now h ok (hg w _ _)⟩
    · exact h.elim
  · exact h.elim
@[simp] def kI0 (g : Int → Int → D) (x y : D) (M : Mem) : Res D := match x, y with
  | .int i, .int j => .ok (g i j) M
  | _, _ => .bad
theorem o_int0 {g : Int → Int → D} {gv : Int → Int → V} (hg : ∀ w i j, Is X.K w (g i j) (gv i j)) : Op2 X E (rI0 gv) (kI0 g) := fun w x y vx vy Q ok ix iy h => by
  unfold kI0 at h
  split at h
  · cases ix; cases iy
    exact ⟨_, _, rfl, rfl, PostG.now h ok (hg w _ _)⟩
  · exact h.elim
@[simp] def kSub := kI0 fun i j => .int (i - j)
def cMul (i j : Int) : Bool := (decide (-(2 ^ 64) < i) && decide (i < 2 ^ 64)) || (decide (-(2 ^ 64) < j) && decide (j < 2 ^ 64))
theorem cMul_ok (i j : Int) (h : cMul i j = true) : CMul i j := by
  unfold cMul at h
  simp only [Bool.or_eq_true, Bool.and_eq_true, decide_eq_true_eq] at h
  exact h
@[simp] def kMul := kI cMul fun i j => .int (i * j)
def cDiv (_ j : Int) : Bool := decide (j ≠ 0) && decide (j.natAbs < 1073741824)
@[simp] def kFdiv := kI cDiv fun i j => .int (i.fdiv j)
@[simp] def kMod := kI (fun _ j => decide (j ≠ 0)) fun i j => .int (i.fmod j)
def cPow (i j : Int) : Bool := decide (0 ≤ j) && (decide (j ≤ 1000000) && decide (i.natAbs < 2 ^ 64))
def kPow := kI cPow fun i j => .int (i ^ j.toNat)
theorem de_add (ha : PE X a (tE (sg X) E fa)) (hb : PE X b (tE (sg X) E fb)) : PE X (.BinOp a .Add b pos) (tE (sg X) E (e2 kAdd fa fb)) := de_op op_addA o_add ha hb
theorem de_sub (ha : PE X a (tE (sg X) E fa)) (hb : PE X b (tE (sg X) E fb)) : PE X (.BinOp a .Sub b pos) (tE (sg X) E (e2 kSub fa fb)) := de_op op_sub (o_int0 fun _ _ _ => .int _) ha hb
theorem de_mul (ha : PE X a (tE (sg X) E fa)) (hb : PE X b (tE (sg X) E fb)) : PE X (.BinOp a .Mult b pos) (tE (sg X) E (e2 kMul fa fb)) := de_op op_mul (o_int cMul_ok fun _ _ _ => .int _) ha hb
theorem de_fdiv (ha : PE X a (tE (sg X) E fa)) (hb : PE X b (tE (sg X) E fb)) : PE X (.BinOp a .FloorDiv b pos) (tE (sg X) E (e2 kFdiv fa fb)) := de_op op_fdivN (o_int (fun i j h => by
  unfold cDiv at h
  simp only [Bool.and_eq_true, decide_eq_true_eq] at h
  exact h) fun _ _ _ => .int _) ha hb
theorem de_mod (ha : PE X a (tE (sg X) E fa)) (hb : PE X b (tE (sg X) E fb)) : PE X (.BinOp a .Mod b pos) (tE (sg X) E (e2 kMod fa fb)) := de_op op_modN (o_int (fun i j h => of_decide_eq_true h) fun _ _ _ => .int _) ha hb
theorem de_pow (ha : PE X a (tE (sg X) E fa)) (hb : PE X b (tE (sg X) E fb)) : PE X (.BinOp a .Pow b pos) (tE (sg X) E (e2 kPow fa fb)) := de_op op_pow (o_int (fun i j h => by
  unfold cPow at h
  simp only [Bool.and_eq_true, decide_eq_true_eq] at h
  exact h) fun _ _ _ => .int _) ha hb
@[simp] def kNeg (x : D) (M : Mem) : Res D := match x with
  | .int i => .ok (.int (-i)) M
  | _ => .bad
theorem e1_weak {r : V → Hp → VK → Prop} {k : D → Mem → Res D} {fa : Fe} (o : ∀ (w : Wd) (x : D) (vx : V) (Q : VK), w.Ok (sg X) → Is X.K w x vx → PostG (sg X) (Is X.K) w E (k x w.M) Q → r vx w.H Q) :
    ∀ σ H Q, tE (sg X) E (e1 k fa) σ H Q → tUn r (tE (sg X) E fa) σ H Q := fun σ H Q h => by
  obtain ⟨w, env, rfl, ok, en, h⟩ := h
  refine ⟨w, env, rfl, ok, en, (PostG.bind (I := Is X.K) h).imp ?_⟩
  rintro b _ ⟨w1, a, rfl, ok1, f1, _, i1, h1⟩
  exact o w1 a b Q ok1 i1 h1
theorem de_neg (ha : PE X a (tE (sg X) E fa)) : PE X (.UnaryOp .USub a pos) (tE (sg X) E (e1 kNeg fa)) := (pe_un un_neg ha).weak (e1_weak fun w x vx Q ok ix h => by
  unfold kNeg at h
  split at h
  · cases ix; exact ⟨_, rfl, PostG.now h ok (.int _)⟩
  · exact h.elim)

/-! ### comparisons -/
def pEq (p q : PyData) : Option Bool := if SeqAt.shaped p && SeqAt.shaped q then some (PyData.eqv p q) else none
def kEqB (x y : D) (M : Mem) : Option Bool := match py M x, py M y with
  | some p, some q => pEq p q
  | _, _ => none
@[simp] def kEq (x y : D) (M : Mem) : Res D := match kEqB x y M with
  | some b => .ok (.bl b) M
  | none => .bad
@[simp] def kNe (x y : D) (M : Mem) : Res D := match kEqB x y M with
  | some b => .ok (.bl (!b)) M
  | none => .bad
theorem kEqB_of {w : Wd} {x y : D} {vx vy : V} {b : Bool} (ok : w.Ok (sg X)) (ix : Is X.K w x vx) (iy : Is X.K w y vy) (h : kEqB x y w.M = some b) : ∃ d e, Dp X.K w.H vx d ∧ Dp X.K w.H vy e ∧ SeqAt.shaped d = true ∧ SeqAt.shaped e = true ∧ PyData.eqv d e = b := by
  unfold kEqB at h
  split at h
  · rename_i p q e1 e2
    unfold pEq at h
    split at h
    · rename_i hs
      rw [Bool.and_eq_true] at hs
      exact ⟨p, q, py_dp ok x vx p ix e1, py_dp ok y vy q iy e2, hs.1, hs.2, Option.some.inj h⟩
    · cases h
  · cases h
theorem o_eq : Op2 X E (rEqD X.K) kEq := fun w x y vx vy Q ok ix iy h => by
  unfold kEq at h
  split at h
  · rename_i b hb
    obtain ⟨d, e, h1, h2, h3, h4, rfl⟩ := kEqB_of ok ix iy hb
    exact ⟨d, e, h1, h2, h3, h4, PostG.now h ok (.bl _)⟩
  · exact h.elim
theorem o_ne : Op2 X E (rNeD X.K) kNe := fun w x y vx vy Q ok ix iy h => by
  unfold kNe at h
  split at h
  · rename_i b hb
    obtain ⟨d, e, h1, h2, h3, h4, rfl⟩ := kEqB_of ok ix iy hb
    exact ⟨d, e, h1, h2, h3, h4, PostG.now h ok (.bl _)⟩
  · exact h.elim
@[simp] def kLt := kI0 fun i j => .bl (decide (i < j))
@[simp] def kLe := kI0 fun i j => .bl (decide (i ≤ j))
@[simp] def kGt := kI0 fun i j => .bl (decide (j < i))
@[simp] def kGe := kI0 fun i j => .bl (decide (j ≤ i))
@[simp] def isNon : D → Bool
  | .non => true
  | _ => false
/-- is None, is not None; is a bool -/
@[simp] def isD (x y : D) : Option Bool := match y with
  | .non => some (isNon x)
  | .bl b => (match x with
    | .bl c => some (decide (c = b))
    | _ => none)
  | _ => none
@[simp] def kIs (x y : D) (M : Mem) : Res D := match isD x y with
  | some b => .ok (.bl b) M
  | none => .bad
@[simp] def kIsNot (x y : D) (M : Mem) : Res D := match isD x y with
  | some b => .ok (.bl (!b)) M
  | none => .bad
end
end Dl

set_option maxHeartbeats 1000000
/-! The data layer, part E: comparisons, tests, displays, subscripts of lists and tuples, slices. -/
namespace Dl
open PySem PySem.Spec PyProof.Rows L2

abbrev Ft := Env → Mem → Res Bool
abbrev Fa := Env → Mem → Res (List D)
section
variable {X : Cx} {E : XK} {a b c : Expr} {fa fb fc : Fe} {ta tb : Ft} {pos : Pos}
/-! ### comparisons -/
theorem de_cmp {op : CmpOp} {r : R2} {k : D → D → Mem → Res D} (h : OpR X (compareOp op) r) (o : Op2 X E r k) (ha : PE X a (tE (sg X) E fa)) (hb : PE X b (tE (sg X) E fb)) (hm : behindInMarks op b = false) :
    PE X (.Compare a [op] [b] pos) (tE (sg X) E (e2 k fa fb)) := (pe_cmpR h ha hb hm).weak (e2_weak o)
/-- a value that is a bool, as a test -/
@[simp] def tBl (f : Fe) : Ft := fun env M => (f env M).bind fun d M1 => match d with
  | .bl b => .ok b M1
  | _ => .bad
theorem bl_weak {f : Fe} : ∀ σ H Q, tT (sg X) E (tBl f) σ H Q → tE (sg X) E f σ H fun x H' => ∃ k, x = .bl k ∧ Q k H' := fun σ H Q h => by
  obtain ⟨w, env, rfl, ok, en, h⟩ := h
  refine ⟨w, env, rfl, ok, en, (PostG.bind (I := Is X.K) h).imp ?_⟩
  rintro b _ ⟨w1, a, rfl, ok1, f1, _, i1, h1⟩
  split at h1
  · cases i1
    exact ⟨_, rfl, PostG.now h1 ok1 rfl⟩
  · exact h1.elim
theorem dt_cmp {op : CmpOp} {r : R2} {k : D → D → Mem → Res D} (h : OpR X (compareOp op) r) (o : Op2 X E r k) (ha : PE X a (tE (sg X) E fa)) (hb : PE X b (tE (sg X) E fb)) (hm : behindInMarks op b = false) :
    PT X (.Compare a [op] [b] pos) (tT (sg X) E (tBl (e2 k fa fb))) := (pt_cmpR h ha hb hm).weak fun σ H Q h => e2_weak o σ H _ (bl_weak σ H Q h)
/-- a < b < c -/
@[simp] def eCh (k k' : D → D → Mem → Res D) (fa fb fc : Fe) : Fe := fun env M => (fa env M).bind fun x M1 => (fb env M1).bind fun y M2 => (k x y M2).bind fun z M3 => match z with
  | .bl c => if c = true then (fc env M3).bind fun u M4 => k' y u M4 else .ok (.bl false) M3
  | _ => .bad
theorem ch_weak {r r' : R2} {k k' : D → D → Mem → Res D} (o : Op2 X E r k) (o' : Op2 X E r' k') : ∀ σ H Q, tE (sg X) E (eCh k k' fa fb fc) σ H Q → tChain r r' (tE (sg X) E fa) (tE (sg X) E fb) (tE (sg X) E fc) σ H Q := fun σ H Q h => by
  obtain ⟨w, env, rfl, ok, en, h⟩ := h
  refine ⟨w, env, rfl, ok, en, (PostG.bind (I := Is X.K) h).imp ?_⟩
  rintro b _ ⟨w1, a, rfl, ok1, f1, _, i1, h1⟩
  refine ⟨w1, env, rfl, ok1, en.mono ok f1.toFut0, (PostG.bind (I := Is X.K) h1).imp ?_⟩
  rintro c _ ⟨w2, y, rfl, ok2, f2, _, i2, h2⟩
  refine o w2 a y b c _ ok2 (i1.mono ok1 f2.toFut0) i2 ((PostG.bind (I := Is X.K) h2).imp ?_)
  rintro z _ ⟨w3, zd, rfl, ok3, f3, _, i3, h3⟩
  have en3 : EnvIs X.K w3 env σ := ((en.mono ok f1.toFut0).mono ok1 f2.toFut0).mono ok2 f3.toFut0
  split at h3
  · rename_i q _
    cases i3
    cases q with
    | true =>
      refine ⟨true, rfl, ?_⟩
      rw [if_pos rfl] at h3 ⊢
      refine ⟨w3, env, rfl, ok3, en3, (PostG.bind (I := Is X.K) h3).imp ?_⟩
      rintro u _ ⟨w4, ud, rfl, ok4, f4, _, i4, h4⟩
      exact o' w4 y ud c u Q ok4 ((i2.mono ok2 f3.toFut0).mono ok3 f4.toFut0) i4 h4
    | false =>
      refine ⟨false, rfl, ?_⟩
      rw [if_neg Bool.false_ne_true] at h3 ⊢
      exact PostG.now h3 ok3 (.bl false)
  · exact h3.elim
theorem de_chain {op op' : CmpOp} {r r' : R2} {k k' : D → D → Mem → Res D} (h : OpR X (compareOp op) r) (h' : OpR X (compareOp op') r') (o : Op2 X E r k) (o' : Op2 X E r' k') (ha : PE X a (tE (sg X) E fa)) (hb : PE X b (tE (sg X) E fb)) (hc : PE X c (tE (sg X) E fc))
    (hm : lastMarks [op, op'] [b, c] = false := by with_unfolding_all rfl) : PE X (.Compare a [op, op'] [b, c] pos) (tE (sg X) E (eCh k k' fa fb fc)) := (pe_chain h h' ha hb hc hm).weak (ch_weak o o')
theorem dt_chain {op op' : CmpOp} {r r' : R2} {k k' : D → D → Mem → Res D} (h : OpR X (compareOp op) r) (h' : OpR X (compareOp op') r') (o : Op2 X E r k) (o' : Op2 X E r' k') (ha : PE X a (tE (sg X) E fa)) (hb : PE X b (tE (sg X) E fb)) (hc : PE X c (tE (sg X) E fc))
    (hm : lastMarks [op, op'] [b, c] = false := by with_unfolding_all rfl) : PT X (.Compare a [op, op'] [b, c] pos) (tT (sg X) E (tBl (eCh k k' fa fb fc))) := (pt_chain h h' ha hb hc hm).weak fun σ H Q h => ch_weak o o' σ H _ (bl_weak σ H Q h)
theorem oLt : Op2 X E (rI0 fun i j => .bl (decide (i < j))) kLt := o_int0 fun _ _ _ => .bl _
theorem oLe : Op2 X E (rI0 fun i j => .bl (decide (i ≤ j))) kLe := o_int0 fun _ _ _ => .bl _
theorem oGt : Op2 X E (rI0 fun i j => .bl (decide (j < i))) kGt := o_int0 fun _ _ _ => .bl _
theorem oGe : Op2 X E (rI0 fun i j => .bl (decide (j ≤ i))) kGe := o_int0 fun _ _ _ => .bl _
def rIsA : R2 := fun x y H Q => (y = .non ∧ Q (.bl (decide (x = .non))) H) ∨ rIsB x y H Q
def rNotA : R2 := fun x y H Q => (y = .non ∧ Q (.bl (!decide (x = .non))) H) ∨ rNotB x y H Q
theorem op_isA : OpR X (compareOp .Is) rIsA := OpR.or op_isN op_isBl
theorem op_notA : OpR X (compareOp .IsNot) rNotA := OpR.or op_notN op_notBl
theorem Is.none_iff {K : PySem.W.Frag} {w : Wd} {d : D} {v : V} (h : Is K w d v) : isNon d = decide (v = .non) := by cases h <;> simp [isNon]
theorem o_is : Op2 X E rIsA kIs := fun w x y vx vy Q ok ix iy h => by
  unfold kIs at h
  split at h
  · rename_i b hb
    unfold isD at hb
    split at hb
    · cases iy
      cases hb
      refine .inl ⟨rfl, ?_⟩
      rw [← ix.none_iff]
      exact PostG.now h ok (.bl _)
    · split at hb
      · cases hb; cases ix; cases iy
        exact .inr ⟨_, _, rfl, rfl, PostG.now h ok (.bl _)⟩
      · cases hb
    · cases hb
  · exact h.elim
theorem o_isnot : Op2 X E rNotA kIsNot := fun w x y vx vy Q ok ix iy h => by
  unfold kIsNot at h
  split at h
  · rename_i b hb
    unfold isD at hb
    split at hb
    · cases iy
      cases hb
      refine .inl ⟨rfl, ?_⟩
      rw [← ix.none_iff]
      exact PostG.now h ok (.bl _)
    · split at hb
      · cases hb; cases ix; cases iy
        exact .inr ⟨_, _, rfl, rfl, PostG.now h ok (.bl _)⟩
      · cases hb
    · cases hb
  · exact h.elim

/-! ### tests -/
@[simp] def tr (M : Mem) (d : D) : Option Bool := match d with
  | .non => some false
  | .bl b => some b
  | .int i => some (i != 0)
  | .tup l => some (!l.isEmpty)
  | d => match asR M d with
    | some l => some (!l.isEmpty)
    | none => none
@[simp] def tV (f : Fe) : Ft := fun env M => (f env M).bind fun d M1 => match tr M1 d with
  | some b => .ok b M1
  | none => .bad
theorem IsAll.isEmpty {K : PySem.W.Frag} {w : Wd} {l : List D} {vs : List V} (h : IsAll K w l vs) : vs.isEmpty = l.isEmpty := by cases h <;> rfl
theorem tr_is {w : Wd} {d : D} {v : V} {b : Bool} (ok : w.Ok (sg X)) (i : Is X.K w d v) (h : tr w.M d = some b) : TruV X.K v w.H b := by
  unfold tr at h
  split at h
  · cases i; cases h; rfl
  · cases i; cases h; rfl
  · cases i; cases h; rfl
  · cases i with
    | tup h1 h2 => cases h; exact .inr (.inl ⟨_, .inl (.inl h1), by rw [h2.isEmpty]⟩)
  · split at h
    · rename_i l hl
      cases h
      obtain ⟨p, vs, rfl, h1, h2⟩ := asR_is ok i hl
      exact .inl ⟨vs, h1, by rw [h2.isEmpty]⟩
    · cases h
theorem dt_val (ha : PE X a (tE (sg X) E fa)) (he : ∀ whole, isTrue a X.env whole = (do let v ← whole; standAt a.pos; holding [v] (truthy v)) := by intro _; rfl) : PT X a (tT (sg X) E (tV fa)) := (pt_truth ha he).weak fun σ H Q h => by
  obtain ⟨w, env, rfl, ok, en, h⟩ := h
  refine ⟨w, env, rfl, ok, en, (PostG.bind (I := Is X.K) h).imp ?_⟩
  rintro b _ ⟨w1, a, rfl, ok1, f1, _, i1, h1⟩
  split at h1
  · rename_i k hk
    exact ⟨k, tr_is ok1 i1 hk, PostG.now h1 ok1 rfl⟩
  · exact h1.elim
@[simp] def tAndF (t u : Ft) : Ft := fun env M => (t env M).bind fun b M1 => if b = true then u env M1 else .ok false M1
@[simp] def tOrF (t u : Ft) : Ft := fun env M => (t env M).bind fun b M1 => if b = true then .ok true M1 else u env M1
@[simp] def tNotF (t : Ft) : Ft := fun env M => (t env M).bind fun b M1 => .ok (!b) M1
theorem _root_.L2.PW.weak {t t' : TT} (h : PW X a t) (k : ∀ σ H Q, t' σ H Q → t σ H Q) : PW X a t' := ⟨fun wh pins s σ H Q I q => h.run wh pins s σ H Q I (k σ H Q q)⟩
theorem dw_and {rest : List Expr} (ha : PT X a (tT (sg X) E ta)) (hb : PW X (.BoolOp .And (b :: rest) pos) (tT (sg X) E tb)) : PW X (.BoolOp .And (a :: b :: rest) pos) (tT (sg X) E (tAndF ta tb)) := (pw_and ha hb).weak fun σ H Q h => by
  obtain ⟨w, env, rfl, ok, en, h⟩ := h
  refine ⟨w, env, rfl, ok, en, (PostG.bind (I := fun _ a b => a = b) h).imp ?_⟩
  rintro b _ ⟨w1, a, rfl, ok1, f1, _, rfl, h1⟩
  split at h1
  · rename_i e
    rw [if_pos e]
    exact ⟨w1, env, rfl, ok1, en.mono ok f1.toFut0, h1⟩
  · rename_i e
    rw [if_neg e]
    exact PostG.now h1 ok1 rfl
theorem dw_or {rest : List Expr} (ha : PT X a (tT (sg X) E ta)) (hb : PW X (.BoolOp .Or (b :: rest) pos) (tT (sg X) E tb)) : PW X (.BoolOp .Or (a :: b :: rest) pos) (tT (sg X) E (tOrF ta tb)) := (pw_or ha hb).weak fun σ H Q h => by
  obtain ⟨w, env, rfl, ok, en, h⟩ := h
  refine ⟨w, env, rfl, ok, en, (PostG.bind (I := fun _ a b => a = b) h).imp ?_⟩
  rintro b _ ⟨w1, a, rfl, ok1, f1, _, rfl, h1⟩
  split at h1
  · rename_i e
    rw [if_pos e]
    exact PostG.now h1 ok1 rfl
  · rename_i e
    rw [if_neg e]
    exact ⟨w1, env, rfl, ok1, en.mono ok f1.toFut0, h1⟩
theorem dt_not (ha : PT X a (tT (sg X) E ta)) : PT X (.UnaryOp .Not a pos) (tT (sg X) E (tNotF ta)) := (pt_not ha).weak fun σ H Q h => by
  obtain ⟨w, env, rfl, ok, en, h⟩ := h
  refine ⟨w, env, rfl, ok, en, (PostG.bind (I := fun _ a b => a = b) h).imp ?_⟩
  rintro b _ ⟨w1, a, rfl, ok1, f1, _, rfl, h1⟩
  exact PostG.now h1 ok1 rfl
/-! as values: bools -/
@[simp] def eAnd (f g : Fe) : Fe := fun env M => (f env M).bind fun x M1 => match x with
  | .bl b => if b = true then g env M1 else .ok (.bl false) M1
  | _ => .bad
@[simp] def eOr (f g : Fe) : Fe := fun env M => (f env M).bind fun x M1 => match x with
  | .bl b => if b = true then .ok (.bl true) M1 else g env M1
  | _ => .bad
@[simp] def eNot (f : Fe) : Fe := fun env M => (f env M).bind fun x M1 => match x with
  | .bl b => .ok (.bl (!b)) M1
  | _ => .bad
theorem de_one {op} (ha : PE X a (tE (sg X) E fa)) : PE X (.BoolOp op [a] pos) (tE (sg X) E fa) := pe_one ha
theorem de_and {rest : List Expr} (ha : PE X a (tE (sg X) E fa)) (hb : PE X (.BoolOp .And (b :: rest) pos) (tE (sg X) E fb)) : PE X (.BoolOp .And (a :: b :: rest) pos) (tE (sg X) E (eAnd fa fb)) := (pe_and ha hb).weak fun σ H Q h => by
  obtain ⟨w, env, rfl, ok, en, h⟩ := h
  refine ⟨w, env, rfl, ok, en, (PostG.bind (I := Is X.K) h).imp ?_⟩
  rintro b _ ⟨w1, a, rfl, ok1, f1, _, i1, h1⟩
  split at h1
  · rename_i q _
    cases i1
    cases q with
    | true =>
      rw [if_pos rfl] at h1
      exact ⟨true, rfl, by rw [if_pos rfl]; exact ⟨w1, env, rfl, ok1, en.mono ok f1.toFut0, h1⟩⟩
    | false =>
      rw [if_neg Bool.false_ne_true] at h1
      exact ⟨false, rfl, by rw [if_neg Bool.false_ne_true]; exact PostG.now h1 ok1 (.bl false)⟩
  · exact h1.elim
theorem de_or {rest : List Expr} (ha : PE X a (tE (sg X) E fa)) (hb : PE X (.BoolOp .Or (b :: rest) pos) (tE (sg X) E fb)) : PE X (.BoolOp .Or (a :: b :: rest) pos) (tE (sg X) E (eOr fa fb)) := (pe_or ha hb).weak fun σ H Q h => by
  obtain ⟨w, env, rfl, ok, en, h⟩ := h
  refine ⟨w, env, rfl, ok, en, (PostG.bind (I := Is X.K) h).imp ?_⟩
  rintro b _ ⟨w1, a, rfl, ok1, f1, _, i1, h1⟩
  split at h1
  · rename_i q _
    cases i1
    cases q with
    | true =>
      rw [if_pos rfl] at h1
      exact ⟨true, rfl, by rw [if_pos rfl]; exact PostG.now h1 ok1 (.bl true)⟩
    | false =>
      rw [if_neg Bool.false_ne_true] at h1
      exact ⟨false, rfl, by rw [if_neg Bool.false_ne_true]; exact ⟨w1, env, rfl, ok1, en.mono ok f1.toFut0, h1⟩⟩
  · exact h1.elim
theorem de_not (ha : PE X a (tE (sg X) E fa)) : PE X (.UnaryOp .Not a pos) (tE (sg X) E (eNot fa)) := (pe_not ha).weak fun σ H Q h => by
  obtain ⟨w, env, rfl, ok, en, h⟩ := h
  refine ⟨w, env, rfl, ok, en, (PostG.bind (I := Is X.K) h).imp ?_⟩
  rintro b _ ⟨w1, a, rfl, ok1, f1, _, i1, h1⟩
  split at h1
  · cases i1
    exact ⟨_, rfl, PostG.now h1 ok1 (.bl _)⟩
  · exact h1.elim
@[simp] def eIf (t : Ft) (f g : Fe) : Fe := fun env M => (t env M).bind fun b M1 => if b = true then f env M1 else g env M1
theorem de_ifx (hc : PT X c (tT (sg X) E ta)) (ha : PE X a (tE (sg X) E fa)) (hb : PE X b (tE (sg X) E fb)) : PE X (.IfExp c a b pos) (tE (sg X) E (eIf ta fa fb)) := (pe_ifExp hc ha hb).weak fun σ H Q h => by
  obtain ⟨w, env, rfl, ok, en, h⟩ := h
  refine ⟨w, env, rfl, ok, en, (PostG.bind (I := fun _ a b => a = b) h).imp ?_⟩
  rintro b _ ⟨w1, a, rfl, ok1, f1, _, rfl, h1⟩
  split at h1
  · rename_i e
    rw [if_pos e]
    exact ⟨w1, env, rfl, ok1, en.mono ok f1.toFut0, h1⟩
  · rename_i e
    rw [if_neg e]
    exact ⟨w1, env, rfl, ok1, en.mono ok f1.toFut0, h1⟩

/-! ### argument lists, displays -/
@[simp] def aN : Fa := fun _ M => .ok [] M
@[simp] def aC (f : Fe) (g : Fa) : Fa := fun env M => (f env M).bind fun x M1 => (g env M1).bind fun xs M2 => .ok (x :: xs) M2
theorem ac_weak {ga : Fa} : ∀ σ H Q, tA (sg X) E (aC fa ga) σ H Q → tCons (tE (sg X) E fa) (tA (sg X) E ga) σ H Q := fun σ H Q h => by
  obtain ⟨w, env, rfl, ok, en, h⟩ := h
  refine ⟨w, env, rfl, ok, en, (PostG.bind (I := Is X.K) h).imp ?_⟩
  rintro b _ ⟨w1, a, rfl, ok1, f1, _, i1, h1⟩
  refine ⟨w1, env, rfl, ok1, en.mono ok f1.toFut0, (PostG.bind (I := IsAll X.K) h1).imp ?_⟩
  rintro bs _ ⟨w2, as, rfl, ok2, f2, _, i2, h2⟩
  exact PostG.now h2 ok2 (.cons (i1.mono ok1 f2.toFut0) i2)
theorem an_weak : ∀ σ H Q, tA (sg X) E aN σ H Q → tNil σ H Q := fun σ H Q h => by
  obtain ⟨w, env, rfl, ok, en, h⟩ := h
  exact PostG.now h ok .nil
theorem da_nil : PA X [] (tA (sg X) E aN) := pa_nil.weak an_weak
theorem da_cons {es : List Expr} {ga : Fa} (ha : PE X a (tE (sg X) E fa)) (hr : PA X es (tA (sg X) E ga)) (hs : starEach (a :: es) X.env = (false, eval a X.env) :: starEach es X.env := by rfl) : PA X (a :: es) (tA (sg X) E (aC fa ga)) := (pa_cons ha hr hs).weak ac_weak
/-- at most so many items -/
def LenLe (n : Nat) (g : Fa) : Prop := ∀ env M l M', g env M = .ok l M' → l.length ≤ n
theorem len0 : LenLe 0 aN := fun env M l M' h => by cases h; exact Nat.le_refl _
theorem lenS {n : Nat} {g : Fa} (h : LenLe n g) : LenLe (n + 1) (aC fa g) := fun env M l M' e => by
  unfold aC at e
  cases q : fa env M with
  | bad => rw [q] at e; cases e
  | exc => rw [q] at e; cases e
  | ok x M1 =>
    rw [q] at e
    simp only [bind_ok] at e
    cases q2 : g env M1 with
    | bad => rw [q2] at e; cases e
    | exc => rw [q2] at e; cases e
    | ok xs M2 => rw [q2] at e; cases e; exact Nat.succ_le_succ (h _ _ _ _ q2)
@[simp] def eTup (g : Fa) : Fe := fun env M => (g env M).bind fun l M1 => .ok (.tup l) M1
theorem PostG.bind_eq {α β γ δ : Type} {G : Sg} {I : Wd → α → β → Prop} {J : Wd → γ → δ → Prop} {w : Wd} {r : Res α} {k : α → Mem → Res γ} {Q : δ → Hp → Prop} (h : PostG G J w E (r.bind k) Q) :
    PostG G I w E r fun b H1 => ∃ w1 a, w1.H = H1 ∧ w1.Ok G ∧ Fut w w1 ∧ r = .ok a w1.M ∧ I w1 a b ∧ PostG G J w1 E (k a w1.M) Q := h.bind
theorem de_tup {es : List Expr} {ga : Fa} {x1} {n : Nat} (h : PA X es (tA (sg X) E ga)) (hl : LenLe n ga) (hn : n ≤ sizeLine := by decide) : PE X (.Tuple es x1 pos) (tE (sg X) E (eTup ga)) := (pe_tup h).weak fun σ H Q h => by
  obtain ⟨w, env, rfl, ok, en, h⟩ := h
  refine ⟨w, env, rfl, ok, en, (PostG.bind (I := IsAll X.K) h).imp ?_⟩
  rintro vs _ ⟨w1, l, rfl, ok1, f1, e1, i1, h1⟩
  exact ⟨by rw [i1.length]; exact Nat.le_trans (hl _ _ _ _ e1) hn, post_tup ok1 h1 i1⟩

/-! ### new lists -/
def PostL (G : Sg) (w : Wd) (E : XK) (r : Res (List D)) (Q : VK) : Prop := match r with
  | .ok l M' => ∀ w' a vs, w'.Ok G → Fut w w' → w'.M = M' → w.H a = none → w'.H a = some (.lst vs) → ¬ w'.F a → (∀ m, m < w'.M.length → w'.rhW m ≠ a) → IsAll G.K w' l vs → Q (.ref a) w'.H
  | .exc C fs M' => ∀ w' oa, w'.Ok G → Fut w w' → w'.M = M' → XIs G.K w' fs oa → E (.ref (He.ga G.K C)) oa w'.H
  | .bad => False
def tL (G : Sg) (E : XK) (f : Fa) : TE := fun σ H Q => ∃ w env, w.H = H ∧ w.Ok G ∧ EnvIs G.K w env σ ∧ PostL G w E (f env w.M) Q
/-- a new list that never changes from now on -/
@[simp] def fV (f : Fa) : Fe := fun env M => (f env M).bind fun l M1 => .ok (.lst l) M1
/-- a new list that comes into the memory -/
@[simp] def fA (f : Fa) : Fe := fun env M => (f env M).bind fun l M1 => .ok (.adr M1.length) (M1 ++ [some (.lst l)])
theorem fv_weak {f : Fa} : ∀ σ H Q, tE (sg X) E (fV f) σ H Q → tL (sg X) E f σ H Q := fun σ H Q h => by
  obtain ⟨w, env, rfl, ok, en, h⟩ := h
  refine ⟨w, env, rfl, ok, en, ?_⟩
  unfold fV at h
  cases q : f env w.M with
  | bad => rw [q] at h; exact h.elim
  | exc C fs M' => rw [q] at h; exact h
  | ok l M' =>
    rw [q] at h
    intro w1 p vs ok1 f1 e hn hp hF hr i
    subst e
    obtain ⟨g, f2, ok2⟩ := ok1.freeze hr (by rw [hp]; exact fun z => nomatch z) f1 hn
    have z := h _ (.ref p) ok2 f2 rfl (.lst (.inr rfl) hp (i.mono ok1 g))
    exact z
theorem fa_weak {f : Fa} : ∀ σ H Q, tE (sg X) E (fA f) σ H Q → tL (sg X) E f σ H Q := fun σ H Q h => by
  obtain ⟨w, env, rfl, ok, en, h⟩ := h
  refine ⟨w, env, rfl, ok, en, ?_⟩
  unfold fA at h
  cases q : f env w.M with
  | bad => rw [q] at h; exact h.elim
  | exc C fs M' => rw [q] at h; exact h
  | ok l M' =>
    rw [q] at h
    intro w1 p vs ok1 f1 e hn hp hF hr i
    subst e
    obtain ⟨f2, ok2, i2⟩ := ok1.alloc (o := .lst l) hr hF (by rw [hp]; exact fun z => nomatch z) f1 hn ⟨vs, hp, i⟩
    have z := h _ (.ref p) ok2 f2 rfl i2
    exact z
theorem post_new {G : Sg} {w : Wd} {l : List D} {vs : List V} {Q : VK} (ok : w.Ok G) {w0 : Wd} (ok0 : w0.Ok G) (f0 : Fut w0 w) (h : PostL G w0 E (.ok l w.M) Q) (r : IsAll G.K w l vs) : ∀ p, w.H p = none → w0.H p = none → Q (.ref p) (upd w.H p (.lst vs)) := fun p hp h0 => by
  obtain ⟨f, ok1⟩ := ok.add hp (.lst vs)
  exact h _ p vs ok1 (f0.trans ok f) rfl h0 upd_same (fun z => ok.frz p z hp) (fun m hm => ok.ne_fresh hp hm) (r.mono ok f.toFut0)
/-- what was free later was free before -/
theorem Fut.free {G : Sg} {w w' : Wd} (ok' : w'.Ok G) (f : Fut w w') {p : Addr} (hp : w'.H p = none) : w.H p = none := by
  cases e : w.H p with
  | none => rfl
  | some o =>
    exfalso
    by_cases st : ∀ (n : Nat) (o : MO), w.M[n]? = some (some o) → o.isLck = false → w.rhW n ≠ p
    · have := f.same p ⟨(by rw [e]; exact (fun z => nomatch z)), st⟩
      rw [hp, e] at this; cases this
    · have : ∃ (n : Nat) (o : MO), w.M[n]? = some (some o) ∧ w.rhW n = p := by
        apply Classical.byContradiction
        intro z
        exact st fun n o h1 _ h2 => z ⟨n, o, h1, h2⟩
      obtain ⟨n, o', h3, h4⟩ := this
      have hn := lt_of_some h3
      have h5 := ok'.here n (Nat.lt_of_lt_of_le hn f.len)
      rw [f.rho n hn, h4, hp] at h5
      exact h5 rfl
/-- a list display -/
theorem PostL.bindA {G : Sg} {w : Wd} {r : Res (List D)} {Q : VK} (h : PostL G w E r Q) (ok : w.Ok G) : PostG G (IsAll G.K) w E r fun vs H1 => ∀ p, H1 p = none → Q (.ref p) (upd H1 p (.lst vs)) := by
  cases r with
  | bad => exact h
  | exc C fs M' => exact h
  | ok l M' =>
    intro w1 vs ok1 f1 e i p hp
    subst e
    exact post_new ok1 ok f1 h i p hp (f1.free ok1 hp)
theorem dl_lst {es : List Expr} {ga : Fa} {n : Nat} (h : PA X es (tA (sg X) E ga)) (hl : LenLe n ga) (hn : n ≤ sizeLine := by decide) : PE X (.List es pos) (tL (sg X) E ga) := (pe_lst h).weak fun σ H Q h => by
  obtain ⟨w, env, rfl, ok, en, h⟩ := h
  refine ⟨w, env, rfl, ok, en, ?_⟩
  have h2 := h.bindA ok
  cases q : ga env w.M with
  | bad => rw [q] at h2; exact h2
  | exc C fs M' => rw [q] at h2; exact h2
  | ok l M' =>
    rw [q] at h2
    intro w1 vs ok1 f1 e i
    exact ⟨by rw [i.length]; exact Nat.le_trans (hl _ _ _ _ q) hn, h2 w1 vs ok1 f1 e i⟩
theorem de_val {e : Expr} {f : Fa} (h : PE X e (tL (sg X) E f)) : PE X e (tE (sg X) E (fV f)) := h.weak fv_weak
theorem de_new {e : Expr} {f : Fa} (h : PE X e (tL (sg X) E f)) : PE X e (tE (sg X) E (fA f)) := h.weak fa_weak
/-- what stands in the memory is frozen (a ghost's step) -/
@[simp] def eFz (f : Fe) : Fe := fun env M => (f env M).bind fun d M1 => match d with
  | .adr n => (match M1[n]? with
    | some (some (.lst l)) => .ok (.lst l) (M1.set n none)
    | _ => .bad)
  | d => .ok d M1
theorem de_fz {e : Expr} {f : Fe} (h : PE X e (tE (sg X) E f)) : PE X e (tE (sg X) E (eFz f)) := h.weak fun σ H Q h => by
  obtain ⟨w, env, rfl, ok, en, h⟩ := h
  refine ⟨w, env, rfl, ok, en, (PostG.bind (I := Is X.K) h).imp ?_⟩
  rintro b _ ⟨w1, a, rfl, ok1, f1, _, i1, h1⟩
  split at h1
  · split at h1
    · rename_i l hm
      cases i1 with
      | adr hn =>
        obtain ⟨g, ok2, i2⟩ := ok1.still hm
        have z := h1 _ _ ok2 g rfl i2
        exact z
    · exact h1.elim
  · exact PostG.now h1 ok1 i1

/-! ### subscripts, slices -/
@[simp] def kIx (x i : D) (M : Mem) : Res D := match i with
  | .int i => (match (match x with
      | .tup l => some l
      | x => asR M x) with
    | some l => (match atI l i with
      | some d => .ok d M
      | none => .bad)
    | none => .bad)
  | _ => .bad
theorem atI_is {K : PySem.W.Frag} {w : Wd} {l : List D} {vs : List V} {i : Int} {d : D} (h : IsAll K w l vs) (e : atI l i = some d) : ∃ v, atI vs i = some v ∧ Is K w d v := by
  unfold atI at e ⊢
  rw [h.length]
  cases q : ixN l.length i with
  | none => rw [q] at e; cases e
  | some j =>
    rw [q] at e
    obtain ⟨v, h1, h2⟩ := h.get (show l[j]? = some d from e)
    exact ⟨v, h1, h2⟩
theorem o_ix : Op2 X E (fun x y H Q => rIxL X.K x y H Q ∨ rIxT X.K x y H Q) kIx := fun w x y vx vy Q ok ix iy h => by
  unfold kIx at h
  split at h
  · rename_i i
    split at h
    · rename_i l hl
      split at h
      · rename_i d hd
        cases iy
        split at hl
        · rename_i l'
          cases hl
          cases ix with
          | tup h1 h2 =>
            obtain ⟨v, h3, h4⟩ := atI_is h2 hd
            exact .inr ⟨_, _, _, v, rfl, rfl, .inl (.inl h1), h3, PostG.now h ok h4⟩
        · obtain ⟨p, vs, rfl, h1, h2⟩ := asR_is ok ix hl
          obtain ⟨v, h3, h4⟩ := atI_is h2 hd
          exact .inl ⟨_, _, _, v, rfl, rfl, h1, h3, PostG.now h ok h4⟩
      · exact h.elim
    · exact h.elim
  · exact h.elim
theorem de_ix (ha : PE X a (tE (sg X) E fa)) (hb : PE X b (tE (sg X) E fb)) (hs : PlainIx b := by intro _ _; rfl) : PE X (.Subscript a b pos) (tE (sg X) E (e2 kIx fa fb)) := (pe_ix (ix_list.or ix_tup) ha hb hs).weak (e2_weak o_ix)
/-- a part of a slice -/
abbrev Fo := Env → Mem → Res (Option Int)
@[simp] def oN : Fo := fun _ M => .ok none M
@[simp] def oS (f : Fe) : Fo := fun env M => (f env M).bind fun d M1 => match d with
  | .int i => .ok (some i) M1
  | _ => .bad
abbrev tO (G : Sg) (E : XK) (f : Fo) : TO := tG G E (fun _ a b => a = b) f
theorem _root_.L2.PO.weak {e : Option Expr} {t t' : TO} (h : PO X e t) (k : ∀ σ H Q, t' σ H Q → t σ H Q) : PO X e t' := ⟨fun pins s σ H Q I q => h.run pins s σ H Q I (k σ H Q q)⟩
theorem do_none : PO X none (tO (sg X) E oN) := po_none.weak fun σ H Q h => by
  obtain ⟨w, env, rfl, ok, en, h⟩ := h
  exact PostG.now h ok rfl
theorem do_some (ha : PE X a (tE (sg X) E fa)) : PO X (some a) (tO (sg X) E (oS fa)) := (po_some ha).weak fun σ H Q h => by
  obtain ⟨w, env, rfl, ok, en, h⟩ := h
  refine ⟨w, env, rfl, ok, en, (PostG.bind (I := Is X.K) h).imp ?_⟩
  rintro b _ ⟨w1, a, rfl, ok1, f1, _, i1, h1⟩
  split at h1
  · cases i1
    exact ⟨_, rfl, PostG.now h1 ok1 rfl⟩
  · exact h1.elim
def cutD (l : List D) (lo hi : Option Int) : List D := (l.drop (HT.sIx l.length 0 lo)).take (HT.sIx l.length l.length hi - HT.sIx l.length 0 lo)
theorem cut_is {K : PySem.W.Frag} {w : Wd} {l : List D} {vs : List V} (h : IsAll K w l vs) (lo hi : Option Int) : IsAll K w (cutD l lo hi) (cutV vs lo hi) := by
  unfold cutD cutV
  rw [h.length]
  exact (h.drop _).take _
@[simp] def kSl (x : D) (lo hi : Option Int) (M : Mem) : Res D := match x with
  | .tup l => .ok (.tup (cutD l lo hi)) M
  | x => match asR M x with
    | some l => .ok (.lst (cutD l lo hi)) M
    | none => .bad
@[simp] def eSl (f : Fe) (g h : Fo) : Fe := fun env M => (f env M).bind fun x M1 => (g env M1).bind fun lo M2 => (h env M2).bind fun hi M3 => kSl x lo hi M3
theorem SlR.or {r r' : V → Option Int → Option Int → Hp → VK → Prop} (h : SlR X r) (h' : SlR X r') : SlR X (fun x lo hi H Q => r x lo hi H Q ∨ r' x lo hi H Q) := fun pins s σ H x v vl vu lo hi sl Q I rx is pl pu q => q.elim (h pins s σ H x v vl vu lo hi sl Q I rx is pl pu) (h' pins s σ H x v vl vu lo hi sl Q I rx is pl pu)
theorem de_sl {e : Expr} {lo hi : Option Expr} {p2 : Pos} {f : Fe} {g h : Fo} (he : PE X e (tE (sg X) E f)) (hl : PO X lo (tO (sg X) E g)) (hu : PO X hi (tO (sg X) E h)) : PE X (.Subscript e (.Slice lo hi none p2) pos) (tE (sg X) E (eSl f g h)) := (pe_slice (SlR.or sl_list sl_tupA) he hl hu).weak fun σ H Q h => by
  obtain ⟨w, env, rfl, ok, en, h⟩ := h
  refine ⟨w, env, rfl, ok, en, (PostG.bind (I := Is X.K) h).imp ?_⟩
  rintro b _ ⟨w1, a, rfl, ok1, f1, _, i1, h1⟩
  refine ⟨w1, env, rfl, ok1, en.mono ok f1.toFut0, (PostG.bind (I := fun _ a b => a = b) h1).imp ?_⟩
  rintro _ _ ⟨w2, l, rfl, ok2, f2, _, rfl, h2⟩
  refine ⟨w2, env, rfl, ok2, (en.mono ok f1.toFut0).mono ok1 f2.toFut0, (PostG.bind (I := fun _ a b => a = b) h2).imp ?_⟩
  rintro _ _ ⟨w3, u, rfl, ok3, f3, _, rfl, h3⟩
  have i3 := (i1.mono ok1 f2.toFut0).mono ok2 f3.toFut0
  unfold kSl at h3
  split at h3
  · rename_i l' he
    cases i3 with
    | @tup _ p vs h4 h5 =>
      refine .inr ⟨p, vs, rfl, .inl (.inl h4), fun e => ?_, fun _ => post_tup ok3 h3 (cut_is h5 l u)⟩
      have e2 : cutD l' l u = l' := by
        unfold cutD
        rw [h5.length] at e
        rw [e.1, e.2]
        simp
      rw [e2] at h3
      exact PostG.now h3 ok3 (.tup h4 h5)
  · split at h3
    · rename_i l' hl
      obtain ⟨p, vs, rfl, h4, h5⟩ := asR_is ok3 i3 hl
      exact .inl ⟨p, vs, rfl, h4, post_lst ok3 h3 (cut_is h5 l u)⟩
    · exact h3.elim
end
end Dl

/-! More walks for the hand layer: enumerate of a tuple. -/
namespace PySem
open Sem (wp)
set_option maxHeartbeats 1000000 in
theorem dl_meets_enum1 {v : Value} {o : Obj} {H : Heap → Prop} (B : Begins v o H) :
    Meets (Builtin.«enumerate.__new__» ⟨[.type "enumerate", v], []⟩) (fun _ R s => H s.heap ∧
      R (.ok (.ret (.ref (s.heap.push o).objs.size))) { s with heap := (s.heap.push o).push { cls := .type "enumerate", data := .fields #[.none, .bool false, .ref s.heap.objs.size, rawInt 0, .none, .none] } }) :=
  .of_wp fun prog w A R s h => by
    obtain ⟨hp, g, d, tk, os⟩ := s; obtain ⟨h1, h⟩ := h
    have hsub := sub_enumerate
    have q1 : ∀ {A' : Around} {E : Value → Shared → Prop} {Q : Value → Shared → Prop}, Q (.ref hp.objs.size) ⟨hp.push o, g, d, tk, os⟩ → wpAny (model prog w) A' (pyIter v) Q E ⟨hp, g, d, tk, os⟩ :=
      fun q => B.iter prog w _ _ ⟨hp, g, d, tk, os⟩ _ h1 q
    wp_walk using q1
    refine wpAny_stack_any fun st => wpAny_pure ?_
    split
    · rename_i c _ _ _ _ _
      cases (c == Value.type "enumerate")
      · wp_walk using q1
        exact ⟨_, rfl, h⟩
      · wp_walk using q1
        exact ⟨_, rfl, h⟩
    · wp_walk using q1
      exact ⟨_, rfl, h⟩
section
variable {prog : Program} {w : World} {A : Around} {E : Value → Shared → Prop} {s : Shared}
theorem dl_call_enum1 {v : Value} {o : Obj} {H : Heap → Prop} {Q : Value → Shared → Prop} (B : Begins v o H) (h1 : H s.heap)
    (h : ∀ h', IsEnum h' (s.heap.objs.size + 1) s.heap.objs.size 0 .none → h'.get? s.heap.objs.size = some o → h'.objs.size = s.heap.objs.size + 2 →
      (∀ b o, s.heap.get? b = some o → h'.get? b = some o) → Q (.ref (s.heap.objs.size + 1)) { s with heap := h' }) :
    wpAny (model prog w) A (call (.type "enumerate") [v]) Q E s := by
  refine callType_new F.called_enumerate (by decide) (F.typeCall_enumerate_1 _) (F.newCall_enumerate_1 _) (fun obj => F.args_object_init_2 obj _) F.entry_enumerate_new
    (dl_meets_enum1 B) ⟨h1, ?_⟩
  have hz : (s.heap.push o).objs.size = s.heap.objs.size + 1 := Heap.size_push ..
  show _ ∧ _
  rw [hz]
  have he : IsEnum ((s.heap.push o).push { cls := .type "enumerate", data := .fields #[.none, .bool false, .ref s.heap.objs.size, rawInt 0, .none, .none] }) (s.heap.objs.size + 1) s.heap.objs.size 0 .none := by
    have := Heap.get?_push_size (s.heap.push o) (o := { cls := .type "enumerate", data := .fields #[.none, .bool false, .ref s.heap.objs.size, rawInt 0, .none, .none] }) rfl
    rw [hz] at this; exact this
  refine ⟨⟨_, he, rfl⟩, h _ he (Heap.get?_push_of_some _ (Heap.get?_push_size _ B.free)) (by rw [Heap.size_push, hz]) fun b o x => Heap.get?_push_of_some _ (Heap.get?_push_of_some _ x)⟩
end
end PySem

namespace L2
open PySem PySem.Spec PyProof.Rows
/-- the tuple at a, its items numbered, in new pairs -/
def IteT (K : PySem.W.Frag) (a : Addr) : It :=
  ⟨fun i H => ∃ (xs : List V) (x : V), SqT K H a xs ∧ xs[i]? = some x, fun i H v H' => ∃ T x, v = .ref T ∧ H T = none ∧ H' = upd H T (.tup [.int (i : Nat), x]) ∧ ∀ xs, SqT K H a xs → xs[i]? = some x, fun i H => ∃ xs : List V, SqT K H a xs ∧ xs.length ≤ i⟩
theorem turn_enumT {P : Program} {w : World} {K : PySem.W.Frag} {elts : List Expr} {kk : Nat} {tpos : Pos} (a e it : Addr) (hae : a ≠ e) (hai : a ≠ it) :
    Turn P w K (.Tuple elts kk tpos) (IteT K a) [e, it] e (fun i h => (∃ old, IsEnum h e it ((i : Nat) : Int) old) ∧ h.IsTupleIter it a i ∧ e ≠ it) where
  mem := by simp
  obj := fun i h st b hb => by
    obtain ⟨⟨old, he⟩, ⟨o, ho, hc, hd⟩, _⟩ := st
    have e' : b = e ∨ b = it := by simpa using hb
    rcases e' with z | z
    · rw [z]; exact ⟨_, he, fun v q => nomatch q⟩
    · rw [z]; exact ⟨o, ho, fun v q => by rw [hd] at q; cases q⟩
  keep := fun i h h' st k => let ⟨⟨old, he⟩, hi, hne⟩ := st; ⟨⟨old, k e (by simp) _ he⟩, hi.at fun o q => k it (by simp) o q, hne⟩
  item := by
    intro X hP hw hK hc i pins s σ H E I hf st hg
    subst hP hw hK
    obtain ⟨⟨old, he⟩, hit, hne⟩ := st
    obtain ⟨xs, x, hq, hx⟩ := hg
    obtain ⟨its, rv, p, hz⟩ := I.tuple hq
    obtain ⟨u, hu, ru⟩ := rv.get hx
    have hel : e < s.heap.objs.size := Heap.lt_size he
    have hil : it < s.heap.objs.size := by obtain ⟨_, q, _⟩ := hit; exact Heap.lt_size q
    have hlt : i < its.toArray.size := by rw [List.size_toArray]; exact (List.getElem?_eq_some_iff.mp hu).1
    refine wpAny_pyNext_enum_itemD (Draws.tuple (prog := X.prog) (w := X.w) (A := X.A.in1) (I.ok.hd hc) it a hai its.toArray) he ⟨hit, p⟩ hlt hne (by simp [hne, Ne.symm hae]) fun y h' tk hy ho hit' hT hsz hk => ?_
    have ey : y = u := by
      have z : its.toArray[i]? = some u := by simpa using hu
      rw [hy] at z
      exact Option.some.inj z
    subst ey
    refine ⟨_, rfl, wpAny_letOwnedTupleGo_enum (s := { s with heap := h', toks := tk + 1 }) ho fun h'' he' sb => ?_⟩
    have hT2 : h''.get? s.heap.objs.size = some { cls := .type "tuple", data := .seq #[.int i tk, y] } := (sb.2 _ (Nat.ne_of_gt hel)).trans hT
    have new : ObjOk X.prog X.w (upd H s.heap.objs.size (.tup [.int (i : Nat), x])) h'' s.heap.objs.size (.tup [.int (i : Nat), x]) :=
      ⟨by show 2 ≤ sizeLine; decide, [.int i tk, y], .cons ⟨_, rfl⟩ (.cons ru .nil), ⟨_, hT2, rfl, _, rfl⟩⟩
    have I1 : Inv X pins σ (upd H s.heap.objs.size (.tup [.int (i : Nat), x])) { s with heap := h'', toks := tk + 1 } :=
      I.turnedNew (ch := [e, it]) (fun b ob hb q => (sb.2 b (fun z => hb (by simp [z]))).trans (hk b ob (fun z => hb (by simp [z])) (fun z => hb (by simp [z])) q)) hf (Nat.le_refl _) new
    refine ⟨.ref s.heap.objs.size, _, I1, rfl, ⟨_, x, rfl, I.hok.fresh (Nat.le_refl _), rfl, fun ys hy2 => by rw [I.tuple_inj hy2 hq]; exact hx⟩, ⟨⟨y, ?_⟩, hit'.1.at fun o q => (sb.2 it (Ne.symm hne)).trans q, hne⟩, fun b hb => ?_⟩
    · have e1 : ((i + 1 : Nat) : Int) = (i : Int) + 1 := by omega
      rw [e1]; exact he'
    · have hb' : b < s.heap.objs.size := by
        have e' : b = e ∨ b = it := by simpa using hb
        rcases e' with z | z
        · rw [z]; exact hel
        · rw [z]; exact hil
      rw [upd_ne (Nat.ne_of_lt hb')]
      exact (hf b hb).1
  done := by
    intro X hP hw hK hc i pins s σ H E I hf st hg
    subst hP hw hK
    obtain ⟨⟨old, he⟩, hit, hne⟩ := st
    obtain ⟨xs, hq, hx⟩ := hg
    obtain ⟨its, rv, p, hz⟩ := I.tuple hq
    obtain ⟨f0, f1, f2, f3, f4, f5⟩ := hf it (by simp)
    have hl := rv.length
    have hT : s.TypeIs (.ref e) "enumerate" := ⟨_, he, rfl⟩
    unfold pyNext
    refine wpAny_bind (wpAny_attempt (wpAny_callSpecial?_slot (name := Str.ofString "__next__") hT F.slot_enumerate_next
      (wpAny_call_entry F.slot_enumerate_next hT F.entry_enumerate_next ?_ (F.args_enumerate_next_1 _))))
    show wpAny _ _ (field (.ref e) 2 >>= _) _ _ _
    refine wpAny_bind (wpAny_field he rfl (x := .ref it) rfl ?_)
    refine wpAny_bind (wpAny_nextOf_tuple_end (items := its.toArray) (I.ok.hd hc) hit p (by simp; omega) fun h' x he' hx' => ?_)
    obtain ⟨o, ho, hc'⟩ := hx'
    refine wpAny_bind (wpAny_isInstance (T := "StopIteration") (b := true) ⟨o, ho, hc'⟩ isSubtype_stop ?_)
    exact wpAny_pure ⟨rfl, I.turned (t' := s.toks) (fun b o hb q => he' b o hb q) f0 f1 f3 f4 f5⟩
  self := fun A i s Q E st h => let ⟨⟨_, he⟩, _⟩ := st; wpAny_pyIter_enum he h
def iEnumT (K : PySem.W.Frag) (ta : TA) : TI := fun σ H R => ta σ H fun vs H1 => ∃ a xs, vs = [.ref a] ∧ SqT K H1 a xs ∧ R (IteT K a) H1
theorem pi_enumT {X : Cx} {e : Expr} {ta : TA} {p pos tpos : Pos} {elts : List Expr} {kk : Nat} (hg : Gl X "enumerate") (hm : X.mg "enumerate" = none) (ha : PA X [e] ta) (hs : starEach [e] X.env = [(false, eval e X.env)] := by rfl) :
    PI X (.Tuple elts kk tpos) (.Call (.Name "enumerate" p) [e] [] pos) (iEnumT X.K ta) := by
  refine ⟨fun pins s σ H R I h => ?_⟩
  refine Call_ (ld_blt I hg hm PyProof.Rows.boot_enumerate (PyProof.Rows.callWith_type1 (thn (ha.run pos pins s σ H _ I h) fun us s1 ⟨vs, H1, I1, r1, q1⟩ => ?_) hs rfl))
  obtain ⟨a, xs, ex, hq, q⟩ := q1
  subst ex
  cases r1 with
  | cons r rr =>
    cases rr
    cases r
    obtain ⟨its, rv, p', hz⟩ := I1.tuple hq
    have la : a < s1.heap.objs.size := by obtain ⟨_, q, _⟩ := p'; exact Heap.lt_size q
    have hit0 : ∀ h' : Heap, h'.get? s1.heap.objs.size = some { cls := .type "tuple_iterator", data := .fields #[.ref a, .int 0 0] } → h'.IsTupleIter s1.heap.objs.size a 0 := fun h' q => ⟨_, q, rfl, rfl⟩
    refine dl_call_enum1 (begins_tuple a its.toArray) p' fun h' he hit hsz hk => wpAny_pyIter_enum he ?_
    have I2 : Inv X pins σ H1 { s1 with heap := h' } := I1.kept (t' := s1.toks) hk
    refine ⟨s1.heap.objs.size + 1, [s1.heap.objs.size + 1, s1.heap.objs.size], _, _, H1, rfl, I2, turn_enumT a (s1.heap.objs.size + 1) s1.heap.objs.size (Nat.ne_of_lt (Nat.lt_succ_of_lt la)) (Nat.ne_of_lt la), ⟨⟨.none, he⟩, hit0 _ hit, Nat.succ_ne_self _⟩, fun b hb => ?_, q⟩
    have e' : b = s1.heap.objs.size + 1 ∨ b = s1.heap.objs.size := by simpa using hb
    have hle : s1.heap.objs.size ≤ b := by
      rcases e' with z | z
      · rw [z]; exact Nat.le_add_right _ _
      · rw [z]; exact Nat.le_refl _
    exact I1.fpOk hle (I1.hok.fresh hle)
end L2

set_option maxHeartbeats 1000000
/-! The data layer, part F: what is walked; comprehensions. -/
namespace Dl
open PySem PySem.Spec PyProof.Rows L2

/-- the things at these numbers stand as they did -/
def chk (M0 : Mem) (pin : List Nat) (M : Mem) : Bool := pin.all fun m => decide (M[m]? = M0[m]?)
@[simp] theorem chk_nil (M0 M : Mem) : chk M0 [] M = true := rfl
structure Goes (G : Sg) (w : Wd) (J : It) (items : List D) (pin : List Nat) : Prop where
  go : ∀ (i : Nat) (d : D) (w1 : Wd), w1.Ok G → Fut w w1 → chk w.M pin w1.M = true → items[i]? = some d → J.go i w1.H ∧ ∀ x H', J.yld i w1.H x H' → ∃ w2, w2.Ok G ∧ Fut w1 w2 ∧ w2.M = w1.M ∧ w2.H = H' ∧ Is G.K w2 d x
  stop : ∀ (i : Nat) (w1 : Wd), w1.Ok G → Fut w w1 → chk w.M pin w1.M = true → items.length ≤ i → J.stop i w1.H
  len : items.length ≤ sizeLine
abbrev Fi := Env → Mem → Res (List D × List Nat)
abbrev tIt (G : Sg) (E : XK) (f : Fi) : TI := tG G E (fun w a J => Goes G w J a.1 a.2) f

section
variable {X : Cx} {E : XK} {a b : Expr} {fa fb : Fe} {pos : Pos}
/-- lists and tuples of a state are not too long -/
def Short (K : PySem.W.Frag) (H : Hp) : Prop := (∀ a xs, SqL K H a xs → xs.length ≤ sizeLine) ∧ ∀ a xs, SqT K H a xs → xs.length ≤ sizeLine
theorem short_of {pins : List (Addr × Obj)} {σ : L2.St} {H : Hp} {s : Shared} (I : Inv X pins σ H s) : Short X.K H := ⟨fun a xs h => let ⟨_, _, _, z⟩ := I.list h; z, fun a xs h => let ⟨_, _, _, z⟩ := I.tuple h; z⟩
theorem PE.short {e : Expr} {t : TE} (h : PE X e t) : PE X e (fun σ H Q => t σ H fun v H' => Short X.K H' → Q v H') := ⟨fun pins s σ H Q I q => thn (h.run pins s σ H _ I q) fun u s1 ⟨v, H1, I1, r1, q1⟩ => ⟨v, H1, I1, r1, q1 (short_of I1)⟩⟩
theorem PA.short {es : List Expr} {t : TA} (h : PA X es t) : PA X es (fun σ H Q => t σ H fun v H' => Short X.K H' → Q v H') := ⟨fun pos pins s σ H Q I q => thn (h.run pos pins s σ H _ I q) fun u s1 ⟨v, H1, I1, r1, q1⟩ => ⟨v, H1, I1, r1, q1 (short_of I1)⟩⟩

/-- what a list's items are, as long as what is pinned stands -/
def Lies (G : Sg) (w : Wd) (a : Addr) (l : List D) (pin : List Nat) : Prop := ∀ w1 : Wd, w1.Ok G → Fut w w1 → chk w.M pin w1.M = true → ∃ vs, SqL G.K w1.H a vs ∧ IsAll G.K w1 l vs
def LiesT (G : Sg) (w : Wd) (a : Addr) (l : List D) : Prop := ∀ w1 : Wd, w1.Ok G → Fut w w1 → ∃ vs, SqT G.K w1.H a vs ∧ IsAll G.K w1 l vs
/-- the items of a list, and what is to be pinned -/
@[simp] def itL (M : Mem) : D → Option (List D × List Nat)
  | .lst l => some (l, [])
  | .scr l => some (l.map .int, [])
  | .adr n => (match M[n]? with
    | some (some (.lst l)) => some (l, [n])
    | _ => none)
  | _ => none
theorem itL_is {G : Sg} {w : Wd} (ok : w.Ok G) {d : D} {v : V} {l : List D} {pin : List Nat} (h : Is G.K w d v) (e : itL w.M d = some (l, pin)) : ∃ a, v = .ref a ∧ Lies G w a l pin := by
  cases d with
  | lst l' =>
    cases e
    cases h with
    | @lst _ a vs h0 h1 h2 => exact ⟨a, rfl, fun w1 ok1 f _ => ⟨vs, .inl (.inl (by rw [f.same a (ok.still_frz h0 (by rw [h1]; exact (fun z => nomatch z)))]; exact h1)), h2.mono ok f.toFut0⟩⟩
  | scr ns =>
    cases e
    cases h with
    | @scr _ a h => exact ⟨a, rfl, fun w1 ok1 f _ => ⟨_, h.elim (fun h => SqL.congr (f.same a (ok.still_frz h.1 h.2.2)) h.2.1) (fun h => h w1.H), IsAll.of_ints ns⟩⟩
  | adr n =>
    cases h with
    | adr hn =>
      have e2 : (match w.M[n]? with
        | some (some (.lst l)) => some (l, [n])
        | _ => none) = some (l, pin) := e
      split at e2
      · rename_i l2 hm
        cases e2
        refine ⟨_, rfl, fun w1 ok1 f hc => ?_⟩
        unfold chk at hc
        simp only [List.all_cons, List.all_nil, Bool.and_true, decide_eq_true_eq] at hc
        rw [hm] at hc
        obtain ⟨vs, h1, h2⟩ := (ok1.obj _ _ hc).1
        rw [f.rho n hn] at h1
        exact ⟨vs, .inl (.inl h1), h2⟩
      · cases e2
  | _ => cases e
theorem itT_is {G : Sg} {w : Wd} (ok : w.Ok G) {l : List D} {v : V} (h : Is G.K w (.tup l) v) : ∃ a, v = .ref a ∧ LiesT G w a l := by
  cases h with
  | @tup _ a vs h1 h2 => exact ⟨a, rfl, fun w1 ok1 f => ⟨vs, .inl (.inl (by rw [f.same a (ok.still_tup h1)]; exact h1)), h2.mono ok f.toFut0⟩⟩

theorem goes_list {G : Sg} {w : Wd} (ok : w.Ok G) {p : Addr} {l : List D} {pin : List Nat} (h : Lies G w p l pin) (hp : chk w.M pin w.M = true) (hs : Short G.K w.H) : Goes G w (Itl G.K p) l pin where
  go := fun i d w1 ok1 f hc e => by
    obtain ⟨vs, h1, h2⟩ := h w1 ok1 f hc
    obtain ⟨v, h3, h4⟩ := h2.get e
    refine ⟨⟨vs, v, h1, h3⟩, fun x H' hy => ?_⟩
    obtain ⟨rfl, hy⟩ := hy
    have e2 := hy vs h1
    rw [h3] at e2
    cases e2
    exact ⟨w1, ok1, Fut.refl w1, rfl, rfl, h4⟩
  stop := fun i w1 ok1 f hc hl => by
    obtain ⟨vs, h1, h2⟩ := h w1 ok1 f hc
    exact ⟨vs, h1, by rw [h2.length]; exact hl⟩
  len := by
    obtain ⟨vs, h1, h2⟩ := h w ok (Fut.refl w) hp
    rw [← h2.length]
    exact hs.1 _ _ h1
theorem goes_tup {G : Sg} {w : Wd} (ok : w.Ok G) {p : Addr} {l : List D} (h : LiesT G w p l) (hs : Short G.K w.H) : Goes G w (Itt G.K p) l [] where
  go := fun i d w1 ok1 f hc e => by
    obtain ⟨vs, h1, h2⟩ := h w1 ok1 f
    obtain ⟨v, h3, h4⟩ := h2.get e
    refine ⟨⟨vs, v, h1, h3⟩, fun x H' hy => ?_⟩
    obtain ⟨rfl, hy⟩ := hy
    have e2 := hy vs h1
    rw [h3] at e2
    cases e2
    exact ⟨w1, ok1, Fut.refl w1, rfl, rfl, h4⟩
  stop := fun i w1 ok1 f hc hl => by
    obtain ⟨vs, h1, h2⟩ := h w1 ok1 f
    exact ⟨vs, h1, by rw [h2.length]; exact hl⟩
  len := by
    obtain ⟨vs, h1, h2⟩ := h w ok (Fut.refl w)
    rw [← h2.length]
    exact hs.2 _ _ h1
theorem itL_chk {M : Mem} {d : D} {l : List D} {pin : List Nat} (e : itL M d = some (l, pin)) : chk M pin M = true := by
  unfold chk
  rw [List.all_eq_true]
  intro m _
  exact decide_eq_true rfl
theorem range_items {lo : Int} {n i : Nat} {d : D} (e : ((List.range n).map fun (k : Nat) => D.int (lo + k))[i]? = some d) : i < n ∧ d = .int (lo + i) := by
  rw [List.getElem?_map] at e
  cases q : (List.range n)[i]? with
  | none => rw [q] at e; cases e
  | some k =>
    rw [q] at e
    have hl := lt_of_some q
    rw [List.length_range] at hl
    rw [List.getElem?_range hl] at q
    cases q
    cases e
    exact ⟨hl, rfl⟩
theorem goes_range {G : Sg} {w : Wd} {lo : Int} {n : Nat} (hn : n ≤ sizeLine) : Goes G w (Itr lo n) ((List.range n).map fun (k : Nat) => D.int (lo + k)) [] where
  go := fun i d w1 ok1 f hc e => by
    obtain ⟨h1, rfl⟩ := range_items e
    exact ⟨h1, fun x H' ⟨h2, h3⟩ => ⟨w1, ok1, Fut.refl w1, rfl, h2.symm, by rw [h3]; exact .int _⟩⟩
  stop := fun i w1 ok1 f hc hl => by show n ≤ i; simpa using hl
  len := by simpa using hn

/-! ### for x in xs, t; range; enumerate; zip -/
def fIt (f : Fe) : Fi := fun env M => (f env M).bind fun d M1 => match itL M1 d with
  | some p => .ok p M1
  | none => .bad
def fItT (f : Fe) : Fi := fun env M => (f env M).bind fun d M1 => match d with
  | .tup l => .ok (l, []) M1
  | _ => .bad
theorem di_list {tg : Expr} (ha : PE X a (tE (sg X) E fa)) : PI X tg a (tIt (sg X) E (fIt fa)) := (pi_list (PE.short ha)).weak fun σ H Q h => by
  obtain ⟨w, env, rfl, ok, en, h⟩ := h
  refine ⟨w, env, rfl, ok, en, (PostG.bind (I := Is X.K) h).imp ?_⟩
  rintro b _ ⟨w1, d, rfl, ok1, f1, _, i1, h1⟩ hs
  split at h1
  · rename_i p hp
    obtain ⟨l, pin⟩ := p
    obtain ⟨p, rfl, lies⟩ := itL_is ok1 i1 hp
    obtain ⟨vs, h2, h3⟩ := lies w1 ok1 (Fut.refl w1) (itL_chk hp)
    exact ⟨p, rfl, ⟨vs, h2⟩, PostG.now h1 ok1 (goes_list ok1 lies (itL_chk hp) hs)⟩
  · exact h1.elim
theorem di_tup {tg : Expr} (ha : PE X a (tE (sg X) E fa)) : PI X tg a (tIt (sg X) E (fItT fa)) := (pi_tup (PE.short ha)).weak fun σ H Q h => by
  obtain ⟨w, env, rfl, ok, en, h⟩ := h
  refine ⟨w, env, rfl, ok, en, (PostG.bind (I := Is X.K) h).imp ?_⟩
  rintro b _ ⟨w1, d, rfl, ok1, f1, _, i1, h1⟩ hs
  split at h1
  · obtain ⟨p, rfl, lies⟩ := itT_is ok1 i1
    obtain ⟨vs, h2, h3⟩ := lies w1 ok1 (Fut.refl w1)
    exact ⟨p, rfl, ⟨vs, h2⟩, PostG.now h1 ok1 (goes_tup ok1 lies hs)⟩
  · exact h1.elim
def kRng1 (l : List D) (M1 : Mem) : Res (List D × List Nat) := match l with
  | [.int j] => if j ≤ (sizeLine : Int) ∧ -(2 ^ 62) ≤ j then .ok ((List.range j.toNat).map fun (k : Nat) => D.int (k : Int), []) M1 else .bad
  | _ => .bad
@[simp] def fRng1 (g : Fa) : Fi := fun env M => (g env M).bind kRng1
theorem kRng1_nat {n : Nat} {M : Mem} (h : n ≤ sizeLine) : kRng1 [.int (n : Int)] M = .ok ((List.range n).map fun (k : Nat) => D.int (k : Int), []) M := by
  unfold kRng1
  simp only
  rw [if_pos ⟨by omega, by omega⟩]
  rfl
theorem kRng1_int {j : Int} {M : Mem} (h0 : 0 ≤ j) (h : j ≤ (sizeLine : Int)) : kRng1 [.int j] M = .ok ((List.range j.toNat).map fun (k : Nat) => D.int (k : Int), []) M := by
  unfold kRng1
  simp only
  rw [if_pos ⟨h, by omega⟩]
def fRng2 (g : Fa) : Fi := fun env M => (g env M).bind fun l M1 => match l with
  | [.int i, .int j] => if -(2 ^ 62) ≤ i ∧ i < 2 ^ 62 ∧ -(2 ^ 62) ≤ j ∧ j < 2 ^ 62 ∧ j - i ≤ (sizeLine : Int) then .ok ((List.range (j - i).toNat).map fun (k : Nat) => D.int (i + k), []) M1 else .bad
  | _ => .bad
theorem sizeLine_lt : (sizeLine : Int) < 2 ^ 62 := by rw [sizeLine_eq]; decide
theorem di_rng1 {tg : Expr} {p : Pos} {ga : Fa} (hg : Gl X "range") (hm : X.mg "range" = none) (ha : PA X [a] (tA (sg X) E ga)) (hs : starEach [a] X.env = [(false, eval a X.env)] := by rfl) : PI X tg (.Call (.Name "range" p) [a] [] pos) (tIt (sg X) E (fRng1 ga)) := (pi_range1 hg hm ha hs).weak fun σ H Q h => by
  obtain ⟨w, env, rfl, ok, en, h⟩ := h
  refine ⟨w, env, rfl, ok, en, (PostG.bind (I := IsAll X.K) h).imp ?_⟩
  rintro b _ ⟨w1, d, rfl, ok1, f1, _, i1, h1⟩
  unfold kRng1 at h1
  split at h1
  · rename_i j _
    split at h1
    · rename_i hj
      cases i1 with
      | cons q r =>
        cases q; cases r
        have hl := sizeLine_lt
        refine ⟨_, rfl, hj.2, by omega, ?_⟩
        have z := goes_range (G := sg X) (w := w1) (lo := 0) (n := j.toNat) (by have := hj.1; omega)
        simp only [Int.zero_add] at z
        exact PostG.now h1 ok1 z
    · exact h1.elim
  · exact h1.elim
theorem di_rng2 {tg : Expr} {p : Pos} {ga : Fa} (hg : Gl X "range") (hm : X.mg "range" = none) (ha : PA X [a, b] (tA (sg X) E ga)) (hs : starEach [a, b] X.env = [(false, eval a X.env), (false, eval b X.env)] := by rfl) (hs2 : starEach [b] X.env = [(false, eval b X.env)] := by rfl) : PI X tg (.Call (.Name "range" p) [a, b] [] pos) (tIt (sg X) E (fRng2 ga)) := (pi_range2 hg hm ha hs hs2).weak fun σ H Q h => by
  obtain ⟨w, env, rfl, ok, en, h⟩ := h
  refine ⟨w, env, rfl, ok, en, (PostG.bind (I := IsAll X.K) h).imp ?_⟩
  rintro b _ ⟨w1, d, rfl, ok1, f1, _, i1, h1⟩
  split at h1
  · split at h1
    · rename_i hj
      cases i1 with
      | cons q r =>
        cases q
        cases r with
        | cons q r =>
          cases q; cases r
          exact ⟨_, _, rfl, ⟨hj.1, hj.2.1, hj.2.2.1, hj.2.2.2.1⟩, PostG.now h1 ok1 (goes_range (by have := hj.2.2.2.2; omega))⟩
    · exact h1.elim
  · exact h1.elim
end
end Dl

set_option maxHeartbeats 1000000
/-! The data layer, part G: enumerate, zip, a range from its end. -/
namespace Dl
open PySem PySem.Spec PyProof.Rows L2

def numD : Nat → List D → List D
  | _, [] => []
  | k, d :: r => .tup [.int (k : Nat), d] :: numD (k + 1) r
def zipD : List D → List D → List D
  | a :: r, b :: s => .tup [a, b] :: zipD r s
  | _, _ => []
theorem numD_get : ∀ {l : List D} {k i : Nat} {d : D}, (numD k l)[i]? = some d → ∃ x, l[i]? = some x ∧ d = .tup [.int ((k + i : Nat) : Int), x]
  | [], _, _, _, h => by simp [numD] at h
  | a :: r, k, 0, d, h => by simp [numD] at h; exact ⟨a, rfl, by rw [← h]; rfl⟩
  | a :: r, k, i + 1, d, h => by
    have h : (numD (k + 1) r)[i]? = some d := by simpa [numD] using h
    obtain ⟨x, h1, h2⟩ := numD_get h
    exact ⟨x, by simpa using h1, by rw [h2]; congr 4; omega⟩
theorem numD_len : ∀ {l : List D} {k : Nat}, (numD k l).length = l.length
  | [], _ => rfl
  | a :: r, k => by rw [numD, List.length_cons, List.length_cons, numD_len]
theorem zipD_get : ∀ {l m : List D} {i : Nat} {d : D}, (zipD l m)[i]? = some d → ∃ x y, l[i]? = some x ∧ m[i]? = some y ∧ d = .tup [x, y]
  | [], _, _, _, h => by simp [zipD] at h
  | _ :: _, [], _, _, h => by simp [zipD] at h
  | a :: r, b :: s, 0, d, h => by simp [zipD] at h; exact ⟨a, b, rfl, rfl, h.symm⟩
  | a :: r, b :: s, i + 1, d, h => by
    have h : (zipD r s)[i]? = some d := by simpa [zipD] using h
    obtain ⟨x, y, h1, h2, h3⟩ := zipD_get h
    exact ⟨x, y, by simpa using h1, by simpa using h2, h3⟩
theorem zipD_len : ∀ {l m : List D}, (zipD l m).length = min l.length m.length
  | [], _ => by simp [zipD]
  | _ :: _, [] => by simp [zipD]
  | a :: r, b :: s => by rw [zipD, List.length_cons, List.length_cons, List.length_cons, zipD_len]; omega

section
variable {G : Sg} {w : Wd}
theorem pair_new {w1 : Wd} (ok1 : w1.Ok G) {T : Addr} (hT : w1.H T = none) {a b : D} {x y : V} (ha : Is G.K w1 a x) (hb : Is G.K w1 b y) : ∃ w2 : Wd, w2.Ok G ∧ Fut w1 w2 ∧ w2.M = w1.M ∧ w2.H = upd w1.H T (.tup [x, y]) ∧ Is G.K w2 (.tup [a, b]) (.ref T) := by
  obtain ⟨f, ok2⟩ := ok1.add hT (.tup [x, y])
  exact ⟨_, ok2, f, rfl, rfl, .tup upd_same (.cons (ha.mono ok1 f.toFut0) (.cons (hb.mono ok1 f.toFut0) .nil))⟩
theorem goes_enumL (ok : w.Ok G) {p : Addr} {l : List D} {pin : List Nat} (h : Lies G w p l pin) (hp : chk w.M pin w.M = true) (hs : Short G.K w.H) : Goes G w (Ite G.K p) (numD 0 l) pin where
  go := fun i d w1 ok1 f hc e => by
    obtain ⟨z, e1, rfl⟩ := numD_get e
    obtain ⟨vs, h1, h2⟩ := h w1 ok1 f hc
    obtain ⟨v, h3, h4⟩ := h2.get e1
    refine ⟨⟨vs, v, h1, h3⟩, fun x H' hy => ?_⟩
    obtain ⟨T, y, rfl, hT, rfl, hy⟩ := hy
    have e2 := hy vs h1
    rw [h3] at e2
    cases e2
    rw [Nat.zero_add]
    exact pair_new ok1 hT (.int _) h4
  stop := fun i w1 ok1 f hc hl => by
    obtain ⟨vs, h1, h2⟩ := h w1 ok1 f hc
    rw [numD_len] at hl
    exact ⟨vs, h1, by rw [h2.length]; exact hl⟩
  len := by
    obtain ⟨vs, h1, h2⟩ := h w ok (Fut.refl w) hp
    rw [numD_len, ← h2.length]
    exact hs.1 _ _ h1
theorem goes_enumT (ok : w.Ok G) {p : Addr} {l : List D} (h : LiesT G w p l) (hs : Short G.K w.H) : Goes G w (IteT G.K p) (numD 0 l) [] where
  go := fun i d w1 ok1 f hc e => by
    obtain ⟨z, e1, rfl⟩ := numD_get e
    obtain ⟨vs, h1, h2⟩ := h w1 ok1 f
    obtain ⟨v, h3, h4⟩ := h2.get e1
    refine ⟨⟨vs, v, h1, h3⟩, fun x H' hy => ?_⟩
    obtain ⟨T, y, rfl, hT, rfl, hy⟩ := hy
    have e2 := hy vs h1
    rw [h3] at e2
    cases e2
    rw [Nat.zero_add]
    exact pair_new ok1 hT (.int _) h4
  stop := fun i w1 ok1 f hc hl => by
    obtain ⟨vs, h1, h2⟩ := h w1 ok1 f
    rw [numD_len] at hl
    exact ⟨vs, h1, by rw [h2.length]; exact hl⟩
  len := by
    obtain ⟨vs, h1, h2⟩ := h w ok (Fut.refl w)
    rw [numD_len, ← h2.length]
    exact hs.2 _ _ h1
theorem chk_app {M0 M : Mem} {p q : List Nat} (h : chk M0 (p ++ q) M = true) : chk M0 p M = true ∧ chk M0 q M = true := by
  unfold chk at h ⊢
  rw [List.all_append, Bool.and_eq_true] at h
  exact h
theorem goes_zipL (ok : w.Ok G) {p q : Addr} {l m : List D} {pin pin2 : List Nat} (h : Lies G w p l pin) (g : Lies G w q m pin2) (hp : chk w.M (pin ++ pin2) w.M = true) (hs : Short G.K w.H) : Goes G w (Itz G.K p q) (zipD l m) (pin ++ pin2) where
  go := fun i d w1 ok1 f hc e => by
    obtain ⟨z, z', e1, e1', rfl⟩ := zipD_get e
    obtain ⟨c1, c2⟩ := chk_app hc
    obtain ⟨vs, h1, h2⟩ := h w1 ok1 f c1
    obtain ⟨v, h3, h4⟩ := h2.get e1
    obtain ⟨us, g1, g2⟩ := g w1 ok1 f c2
    obtain ⟨u, g3, g4⟩ := g2.get e1'
    refine ⟨⟨vs, us, v, u, h1, g1, h3, g3⟩, fun x H' hy => ?_⟩
    obtain ⟨T, y, y', rfl, hT, rfl, hy, hy'⟩ := hy
    have e2 := hy vs h1
    rw [h3] at e2
    cases e2
    have e3 := hy' us g1
    rw [g3] at e3
    cases e3
    exact pair_new ok1 hT h4 g4
  stop := fun i w1 ok1 f hc hl => by
    obtain ⟨c1, c2⟩ := chk_app hc
    obtain ⟨vs, h1, h2⟩ := h w1 ok1 f c1
    obtain ⟨us, g1, g2⟩ := g w1 ok1 f c2
    rw [zipD_len] at hl
    exact ⟨vs, us, h1, g1, by rw [h2.length, g2.length]; omega⟩
  len := by
    obtain ⟨vs, h1, h2⟩ := h w ok (Fut.refl w) (chk_app hp).1
    rw [zipD_len, ← h2.length]
    have := hs.1 _ _ h1
    omega
theorem goes_zipT (ok : w.Ok G) {p q : Addr} {l m : List D} (h : LiesT G w p l) (g : LiesT G w q m) (hs : Short G.K w.H) : Goes G w (RZ.ItzT G.K p q) (zipD l m) [] where
  go := fun i d w1 ok1 f hc e => by
    obtain ⟨z, z', e1, e1', rfl⟩ := zipD_get e
    obtain ⟨vs, h1, h2⟩ := h w1 ok1 f
    obtain ⟨v, h3, h4⟩ := h2.get e1
    obtain ⟨us, g1, g2⟩ := g w1 ok1 f
    obtain ⟨u, g3, g4⟩ := g2.get e1'
    refine ⟨⟨vs, us, v, u, h1, g1, h3, g3⟩, fun x H' hy => ?_⟩
    obtain ⟨T, y, y', rfl, hT, rfl, hy, hy'⟩ := hy
    have e2 := hy vs h1
    rw [h3] at e2
    cases e2
    have e3 := hy' us g1
    rw [g3] at e3
    cases e3
    exact pair_new ok1 hT h4 g4
  stop := fun i w1 ok1 f hc hl => by
    obtain ⟨vs, h1, h2⟩ := h w1 ok1 f
    obtain ⟨us, g1, g2⟩ := g w1 ok1 f
    rw [zipD_len] at hl
    exact ⟨vs, us, h1, g1, by rw [h2.length, g2.length]; omega⟩
  len := by
    obtain ⟨vs, h1, h2⟩ := h w ok (Fut.refl w)
    rw [zipD_len, ← h2.length]
    have := hs.2 _ _ h1
    omega
theorem goes_revR {a : Int} {n : Nat} (hn : n ≤ sizeLine) : Goes G w (Itc (a + ((n : Nat) : Int) - 1) (-1) n) ((List.range n).map fun (k : Nat) => D.int (a + (n : Int) - 1 - k)) [] where
  go := fun i d w1 ok1 f hc e => by
    have hi : i < n ∧ d = .int (a + (n : Int) - 1 - i) := by
      rw [List.getElem?_map] at e
      cases q : (List.range n)[i]? with
      | none => rw [q] at e; cases e
      | some k =>
        rw [q] at e
        have hl := lt_of_some q
        rw [List.length_range] at hl
        rw [List.getElem?_range hl] at q
        cases q
        cases e
        exact ⟨hl, rfl⟩
    obtain ⟨h1, rfl⟩ := hi
    refine ⟨h1, fun x H' ⟨h2, h3⟩ => ⟨w1, ok1, Fut.refl w1, rfl, h2.symm, ?_⟩⟩
    have e : a + (n : Int) - 1 + (i : Nat) * (-1) = a + (n : Int) - 1 - i := by omega
    rw [h3, e]
    exact .int _
  stop := fun i w1 ok1 f hc hl => by show n ≤ i; simpa using hl
  len := by simpa using hn
end

section
variable {X : Cx} {E : XK} {a b : Expr} {fa fb : Fe} {pos : Pos}
def fEnumL (g : Fa) : Fi := fun env M => (g env M).bind fun l M1 => match l with
  | [d] => (match itL M1 d with
    | some p => .ok (numD 0 p.1, p.2) M1
    | none => .bad)
  | _ => .bad
def fEnumT (g : Fa) : Fi := fun env M => (g env M).bind fun l M1 => match l with
  | [.tup l] => .ok (numD 0 l, []) M1
  | _ => .bad
@[simp] def fZip (g : Fa) : Fi := fun env M => (g env M).bind fun l M1 => match l with
  | [.tup l, .tup m] => .ok (zipD l m, []) M1
  | [c, d] => (match itL M1 c, itL M1 d with
    | some p, some q => .ok (zipD p.1 q.1, p.2 ++ q.2) M1
    | _, _ => .bad)
  | _ => .bad
theorem di_enumL {p tpos : Pos} {elts : List Expr} {kk : Nat} {ga : Fa} (hg : Gl X "enumerate") (hm : X.mg "enumerate" = none) (ha : PA X [a] (tA (sg X) E ga)) (hs : starEach [a] X.env = [(false, eval a X.env)] := by rfl) :
    PI X (.Tuple elts kk tpos) (.Call (.Name "enumerate" p) [a] [] pos) (tIt (sg X) E (fEnumL ga)) := (pi_enum hg hm (PA.short ha) hs).weak fun σ H Q h => by
  obtain ⟨w, env, rfl, ok, en, h⟩ := h
  refine ⟨w, env, rfl, ok, en, (PostG.bind (I := IsAll X.K) h).imp ?_⟩
  rintro b _ ⟨w1, d, rfl, ok1, f1, _, i1, h1⟩ hs
  split at h1
  · rename_i d
    split at h1
    · rename_i p hp
      obtain ⟨l, pin⟩ := p
      cases i1 with
      | cons q r =>
        cases r
        obtain ⟨p, rfl, lies⟩ := itL_is ok1 q hp
        obtain ⟨vs, h2, h3⟩ := lies w1 ok1 (Fut.refl w1) (itL_chk hp)
        exact ⟨p, vs, rfl, h2, PostG.now h1 ok1 (goes_enumL ok1 lies (itL_chk hp) hs)⟩
    · exact h1.elim
  · exact h1.elim
theorem di_enumT {p tpos : Pos} {elts : List Expr} {kk : Nat} {ga : Fa} (hg : Gl X "enumerate") (hm : X.mg "enumerate" = none) (ha : PA X [a] (tA (sg X) E ga)) (hs : starEach [a] X.env = [(false, eval a X.env)] := by rfl) :
    PI X (.Tuple elts kk tpos) (.Call (.Name "enumerate" p) [a] [] pos) (tIt (sg X) E (fEnumT ga)) := (pi_enumT hg hm (PA.short ha) hs).weak fun σ H Q h => by
  obtain ⟨w, env, rfl, ok, en, h⟩ := h
  refine ⟨w, env, rfl, ok, en, (PostG.bind (I := IsAll X.K) h).imp ?_⟩
  rintro b _ ⟨w1, d, rfl, ok1, f1, _, i1, h1⟩ hs
  split at h1
  · cases i1 with
    | cons q r =>
      cases r
      obtain ⟨p, rfl, lies⟩ := itT_is ok1 q
      obtain ⟨vs, h2, h3⟩ := lies w1 ok1 (Fut.refl w1)
      exact ⟨p, vs, rfl, h2, PostG.now h1 ok1 (goes_enumT ok1 lies hs)⟩
  · exact h1.elim
theorem di_zip {p tpos : Pos} {elts : List Expr} {kk : Nat} {ga : Fa} (hg : Gl X "zip") (hm : X.mg "zip" = none) (ha : PA X [a, b] (tA (sg X) E ga)) (hs : starEach [a, b] X.env = (false, eval a X.env) :: starEach [b] X.env := by rfl) (hpl : (backTo pos (starEach [b] X.env)).any (·.1) = false := by rfl) :
    PI X (.Tuple elts kk tpos) (.Call (.Name "zip" p) [a, b] [] pos) (tIt (sg X) E (fZip ga)) := (RZ.pi_zipA hg hm (PA.short ha) hs hpl).weak fun σ H Q h => by
  obtain ⟨w, env, rfl, ok, en, h⟩ := h
  refine ⟨w, env, rfl, ok, en, (PostG.bind (I := IsAll X.K) h).imp ?_⟩
  rintro b _ ⟨w1, d, rfl, ok1, f1, _, i1, h1⟩ hs
  split at h1
  · cases i1 with
    | cons q r =>
      cases r with
      | cons q2 r =>
        cases r
        obtain ⟨p, rfl, lies⟩ := itT_is ok1 q
        obtain ⟨vs, h2, h3⟩ := lies w1 ok1 (Fut.refl w1)
        obtain ⟨p2, rfl, lies2⟩ := itT_is ok1 q2
        obtain ⟨vs2, g2, g3⟩ := lies2 w1 ok1 (Fut.refl w1)
        exact ⟨p, p2, vs, vs2, rfl, .inr ⟨h2, g2, PostG.now h1 ok1 (goes_zipT ok1 lies lies2 hs)⟩⟩
  · split at h1
    · rename_i p q hp hq
      obtain ⟨l, pin⟩ := p
      obtain ⟨l2, pin2⟩ := q
      cases i1 with
      | cons q r =>
        cases r with
        | cons q2 r =>
          cases r
          obtain ⟨p, rfl, lies⟩ := itL_is ok1 q hp
          obtain ⟨vs, h2, h3⟩ := lies w1 ok1 (Fut.refl w1) (itL_chk hp)
          obtain ⟨p2, rfl, lies2⟩ := itL_is ok1 q2 hq
          obtain ⟨vs2, g2, g3⟩ := lies2 w1 ok1 (Fut.refl w1) (itL_chk hq)
          refine ⟨p, p2, vs, vs2, rfl, .inl ⟨h2, g2, PostG.now h1 ok1 (goes_zipL ok1 lies lies2 ?_ hs)⟩⟩
          unfold chk
          rw [List.all_eq_true]
          intro m _
          exact decide_eq_true rfl
    · exact h1.elim
  · exact h1.elim
/-- reversed(range(n)) -/
def kRevR (d : D) (M1 : Mem) : Res (List D × List Nat) := match d with
  | .int j => if j ≤ (sizeLine : Int) ∧ -(2 ^ 62) ≤ j then .ok ((List.range j.toNat).map fun (k : Nat) => D.int ((j.toNat : Int) - 1 - k), []) M1 else .bad
  | _ => .bad
@[simp] def fRevR (f : Fe) : Fi := fun env M => (f env M).bind kRevR
theorem kRevR_int {j : Int} {M : Mem} (h0 : 0 ≤ j) (h : j ≤ (sizeLine : Int)) : kRevR (.int j) M = .ok ((List.range j.toNat).map fun (k : Nat) => D.int ((j.toNat : Int) - 1 - k), []) M := by
  unfold kRevR
  simp only
  rw [if_pos ⟨h, by omega⟩]
theorem di_revR {tg : Expr} {p p2 pos2 : Pos} (hg : Gl X "reversed") (hm : X.mg "reversed" = none) (hg2 : Gl X "range") (hm2 : X.mg "range" = none) (ha : PE X a (tE (sg X) E fa)) (na : starEach [a] X.env = (false, eval a X.env) :: starEach [] X.env := by rfl)
    (hs : starEach [.Call (.Name "range" p2) [a] [] pos2] X.env = (false, eval (.Call (.Name "range" p2) [a] [] pos2) X.env) :: starEach [] X.env := by rfl) :
    PI X tg (.Call (.Name "reversed" p) [.Call (.Name "range" p2) [a] [] pos2] [] pos) (tIt (sg X) E (fRevR fa)) := (pi_revR hg hm (prg_1 hg2 hm2 ha na) hs).weak fun σ H Q h => by
  obtain ⟨w, env, rfl, ok, en, h⟩ := h
  refine ⟨w, env, rfl, ok, en, (PostG.bind (I := Is X.K) h).imp ?_⟩
  rintro b _ ⟨w1, d, rfl, ok1, f1, _, i1, h1⟩
  unfold kRevR at h1
  split at h1
  · rename_i j _
    split at h1
    · rename_i hj
      cases i1
      have hl := sizeLine_lt
      refine ⟨j, rfl, by decide, by decide, hj.2, by omega, ?_⟩
      have z := goes_revR (G := sg X) (w := w1) (a := 0) (n := (j - 0).toNat) (by have := hj.1; omega)
      have e : (j - 0).toNat = j.toNat := by rw [Int.sub_zero]
      rw [e] at z ⊢
      have e2 : ((List.range j.toNat).map fun (k : Nat) => D.int (0 + (j.toNat : Int) - 1 - k)) = ((List.range j.toNat).map fun (k : Nat) => D.int ((j.toNat : Int) - 1 - k)) := by simp only [Int.zero_add]
      rw [e2] at z
      exact PostG.now h1 ok1 z
    · exact h1.elim
  · exact h1.elim
end
end Dl

set_option maxHeartbeats 1000000
/-! The data layer, part H: targets, statements, loops, comprehensions. -/
namespace Dl
open PySem PySem.Spec PyProof.Rows L2

/-! ### targets of loops and comprehensions -/
inductive Pat where
  | nm (i : Nat) | tp (is : List Nat)
def Pat.ix : Pat → List Nat
  | .nm i => [i]
  | .tp is => is
@[simp] def putL : List Nat → List D → Env → Env
  | i :: is, d :: l, env => putL is l (env.set i (some d))
  | _, _, env => env
@[simp] def putD (p : Pat) (d : D) (env : Env) : Option Env := match p, d with
  | .nm i, d => some (env.set i (some d))
  | .tp is, .tup l => if l.length = is.length then some (putL is l env) else none
  | _, _ => none
def gNs : List Nat → TGs
  | [] => gNil
  | i :: is => gCons (gName i) (gNs is)
def gP (K : PySem.W.Frag) : Pat → TG
  | .nm i => gName i
  | .tp is => gTup K is.length (gNs is)
section
variable {K : PySem.W.Frag} {w : Wd}
theorem wipe_set_in : ∀ {vs : List Nat} {σ : L2.St} {i : Nat} {x : Option V}, i ∈ vs → wipe (σ.set i x) vs = wipe σ vs
  | v :: vs, σ, i, x, h => by
    unfold wipe
    by_cases hi : i = v
    · subst hi
      by_cases hv : i ∈ vs
      · rw [wipe_set_in hv]
      · have : ∀ (vs : List Nat), i ∉ vs → wipe (σ.set i x) vs = (wipe σ vs).set i x := by
          intro vs
          induction vs with
          | nil => intro _; rfl
          | cons u us ih =>
            intro hu
            unfold wipe
            rw [ih fun z => hu (List.mem_cons_of_mem _ z), List.set_comm _ _ (fun e => hu (by rw [e]; exact List.mem_cons_self))]
        rw [this vs hv, List.set_set]
    · have : i ∈ vs := (List.mem_cons.mp h).resolve_left hi
      rw [wipe_set_in this]
theorem gNs_run : ∀ {is : List Nat} {l : List D} {vs : List V} {env : Env} {σ : L2.St}, EnvIs K w env σ → IsAll K w l vs → l.length = is.length →
    ∃ σ', EnvIs K w (putL is l env) σ' ∧ (∀ Q : L2.St → Hp → Prop, Q σ' w.H → gNs is vs σ w.H Q) ∧ ∀ own : List Nat, (∀ i ∈ is, i ∈ own) → wipe σ' own = wipe σ own
  | [], [], _, env, σ, en, h, _ => by
    cases h
    exact ⟨σ, en, fun Q q => ⟨rfl, q⟩, fun _ _ => rfl⟩
  | i :: is, d :: l, _, env, σ, en, h, hl => by
    cases h with
    | cons h t =>
      obtain ⟨σ', e, q, wp⟩ := gNs_run (en.set (i := i) h) t (by simpa using hl)
      exact ⟨σ', e, fun Q q' => ⟨_, _, rfl, q Q q'⟩, fun own ho => (wp own fun j hj => ho j (List.mem_cons_of_mem _ hj)).trans (wipe_set_in (ho i List.mem_cons_self))⟩
theorem gP_run {p : Pat} {d : D} {v : V} {env env' : Env} {σ : L2.St} (en : EnvIs K w env σ) (h : Is K w d v) (e : putD p d env = some env') :
    ∃ σ', EnvIs K w env' σ' ∧ (∀ Q : L2.St → Hp → Prop, Q σ' w.H → gP K p v σ w.H Q) ∧ ∀ own : List Nat, (∀ i ∈ p.ix, i ∈ own) → wipe σ' own = wipe σ own := by
  cases p with
  | nm i =>
    cases e
    exact ⟨_, en.set h, fun Q q => q, fun own ho => wipe_set_in (ho i List.mem_cons_self)⟩
  | tp is =>
    cases d with
    | tup l =>
      unfold putD at e
      simp only at e
      split at e
      · rename_i hl
        cases e
        cases h with
        | @tup _ a vs h1 h2 =>
          obtain ⟨σ', e, q, wp⟩ := gNs_run en h2 hl
          exact ⟨σ', e, fun Q q' => ⟨a, vs, rfl, .inl (.inl h1), by rw [h2.length]; exact hl, q Q q'⟩, wp⟩
      · cases e
    | _ => cases e
@[simp] def wipeE (env : Env) : List Nat → Env
  | [] => env
  | v :: vs => (wipeE env vs).set v none
theorem EnvIs.none {i : Nat} {env : Env} {σ : L2.St} (h : EnvIs K w env σ) (x : Option V) : EnvIs K w (env.set i Option.none) (σ.set i x) := by
  refine ⟨by simp [h.1], fun j d q => ?_⟩
  by_cases hj : i = j
  · subst hj
    have hl : i < env.length := by have := lt_of_some q; simpa using this
    rw [List.getElem?_set_self hl] at q
    cases q
  · rw [List.getElem?_set_ne hj] at q
    obtain ⟨v, a, b⟩ := h.2 j d q
    exact ⟨v, by rw [List.getElem?_set_ne hj]; exact a, b⟩
theorem EnvIs.wipe {env : Env} {σ : L2.St} (h : EnvIs K w env σ) : ∀ (vs : List Nat), EnvIs K w (wipeE env vs) (L2.wipe σ vs)
  | [] => h
  | v :: vs => (EnvIs.wipe h vs).none _
end

/-! ### statements -/
inductive Fl where
  | nx (env : Env) | rt (d : D) | bk (env : Env) | ct (env : Env)
inductive FlV where
  | nx (σ : L2.St) | rt (v : V) | bk (σ : L2.St) | ct (σ : L2.St)
abbrev Fs := Env → Mem → Res Fl
def FlI (K : PySem.W.Frag) (w : Wd) : Fl → FlV → Prop
  | .nx env, .nx σ => EnvIs K w env σ
  | .rt d, .rt v => Is K w d v
  | .bk env, .bk σ => EnvIs K w env σ
  | .ct env, .ct σ => EnvIs K w env σ
  | _, _ => False
def dQ (D : Ends) : FlV → Hp → Prop
  | .nx σ, H => D.nx σ H
  | .rt v, H => D.rt v H
  | .bk σ, H => D.bk σ H
  | .ct σ, H => D.ct σ H
def tS (G : Sg) (E : XK) (f : Fs) : TS := fun D σ H => tG G E (FlI G.K) f σ H (dQ D)
section
variable {X : Cx} {E : XK} {a b e c : Expr} {fa fb fe : Fe} {ta : Ft} {pos : Pos} {st : Stmt} {rest : List Stmt} {f g : Fs}
@[simp] def fN : Fs := fun env M => .ok (.nx env) M
@[simp] def fSq (f g : Fs) : Fs := fun env M => (f env M).bind fun fl M1 => match fl with
  | .nx env1 => g env1 M1
  | fl => .ok fl M1
theorem ds_nil : PSs X [] (tS (sg X) E fN) := pss_nil.weak fun D σ H h => by
  obtain ⟨w, env, rfl, ok, en, h⟩ := h
  exact PostG.now (b := FlV.nx σ) h ok en
theorem ds_cons (h1 : PS X st (tS (sg X) E f)) (h2 : PSs X rest (tS (sg X) E g)) : PSs X (st :: rest) (tS (sg X) E (fSq f g)) := (pss_cons h1 h2).weak fun D σ H h => by
  obtain ⟨w, env, rfl, ok, en, h⟩ := h
  refine ⟨w, env, rfl, ok, en, (PostG.bind (I := FlI X.K) h).imp ?_⟩
  rintro fl _ ⟨w1, a, rfl, ok1, f1, _, i1, h1⟩
  cases a with
  | nx env1 =>
    cases fl with
    | nx σ1 => exact ⟨w1, env1, rfl, ok1, i1, h1⟩
    | _ => exact i1.elim
  | rt d =>
    cases fl with
    | rt v => exact PostG.now (Q := dQ D) (b := FlV.rt v) h1 ok1 i1
    | _ => exact i1.elim
  | bk d =>
    cases fl with
    | bk v => exact PostG.now (Q := dQ D) (b := FlV.bk v) h1 ok1 i1
    | _ => exact i1.elim
  | ct d =>
    cases fl with
    | ct v => exact PostG.now (Q := dQ D) (b := FlV.ct v) h1 ok1 i1
    | _ => exact i1.elim
/-- the last one -/
theorem ds_one (h1 : PS X st (tS (sg X) E f)) : PSs X [st] (tS (sg X) E f) := pss_one h1
@[simp] def fRet (f : Fe) : Fs := fun env M => (f env M).bind fun d M1 => .ok (.rt d) M1
theorem ds_ret (he : PE X e (tE (sg X) E fe)) : PS X (.Return (some e) pos) (tS (sg X) E (fRet fe)) := (ps_ret he).weak fun D σ H h => by
  obtain ⟨w, env, rfl, ok, en, h⟩ := h
  refine ⟨w, env, rfl, ok, en, (PostG.bind (I := Is X.K) h).imp ?_⟩
  rintro v _ ⟨w1, d, rfl, ok1, f1, _, i1, h1⟩
  exact PostG.now (b := FlV.rt v) h1 ok1 i1
def fRetN : Fs := fun env M => .ok (.rt .non) M
theorem ds_retN : PS X (.Return none pos) (tS (sg X) E fRetN) := ps_retN.weak fun D σ H h => by
  obtain ⟨w, env, rfl, ok, en, h⟩ := h
  exact PostG.now (b := FlV.rt .non) h ok Is.non
@[simp] def fDrop (f : Fe) : Fs := fun env M => (f env M).bind fun _ M1 => .ok (.nx env) M1
theorem ds_expr (he : PE X e (tE (sg X) E fe)) (hs : swapsWith e none pos.line X.env = pure false := by rfl) : PS X (.Expr e pos) (tS (sg X) E (fDrop fe)) := (ps_expr he hs).weak fun D σ H h => by
  obtain ⟨w, env, rfl, ok, en, h⟩ := h
  refine ⟨w, env, rfl, ok, en, (PostG.bind (I := Is X.K) h).imp ?_⟩
  rintro v _ ⟨w1, d, rfl, ok1, f1, _, i1, h1⟩
  exact PostG.now (b := FlV.nx σ) h1 ok1 (en.mono ok f1.toFut0)
@[simp] def fIf (t : Ft) (f g : Fs) : Fs := fun env M => (t env M).bind fun b M1 => if b = true then f env M1 else g env M1
theorem ds_if {x y : List Stmt} (hc : PT X c (tT (sg X) E ta)) (ha : PSs X x (tS (sg X) E f)) (hb : PSs X y (tS (sg X) E g)) : PS X (.If c x y pos) (tS (sg X) E (fIf ta f g)) := (ps_if hc ha hb).weak fun D σ H h => by
  obtain ⟨w, env, rfl, ok, en, h⟩ := h
  refine ⟨w, env, rfl, ok, en, (PostG.bind (I := fun _ a b => a = b) h).imp ?_⟩
  rintro b _ ⟨w1, a, rfl, ok1, f1, _, rfl, h1⟩
  split at h1
  · rename_i e
    rw [if_pos e]
    exact ⟨w1, env, rfl, ok1, en.mono ok f1.toFut0, h1⟩
  · rename_i e
    rw [if_neg e]
    exact ⟨w1, env, rfl, ok1, en.mono ok f1.toFut0, h1⟩
@[simp] def fBad : Fs := fun _ _ => .bad
theorem ds_never : PS X st (tS (sg X) E fBad) := ps_never.weak fun D σ H h => by
  obtain ⟨w, env, rfl, ok, en, h⟩ := h
  exact h.elim
theorem ds_nevers {sts : List Stmt} : PSs X sts (tS (sg X) E fBad) := pss_never.weak fun D σ H h => by
  obtain ⟨w, env, rfl, ok, en, h⟩ := h
  exact h.elim
def fBk : Fs := fun env M => .ok (.bk env) M
def fCt : Fs := fun env M => .ok (.ct env) M
theorem ds_break : PS X (.Break pos) (tS (sg X) E fBk) := ps_break.weak fun D σ H h => by
  obtain ⟨w, env, rfl, ok, en, h⟩ := h
  exact PostG.now (b := FlV.bk σ) h ok en
theorem ds_continue : PS X (.Continue pos) (tS (sg X) E fCt) := ps_continue.weak fun D σ H h => by
  obtain ⟨w, env, rfl, ok, en, h⟩ := h
  exact PostG.now (b := FlV.ct σ) h ok en
/-! stores -/
@[simp] def fSet (i : Nat) (f : Fe) : Fs := fun env M => (f env M).bind fun d M1 => .ok (.nx (env.set i (some d))) M1
theorem set_weak {i : Nat} : ∀ D σ H, tS (sg X) E (fSet i fe) D σ H → tAsg (tE (sg X) E fe) (gName i) D σ H := fun D σ H h => by
  obtain ⟨w, env, rfl, ok, en, h⟩ := h
  refine ⟨w, env, rfl, ok, en, (PostG.bind (I := Is X.K) h).imp ?_⟩
  rintro v _ ⟨w1, d, rfl, ok1, f1, _, i1, h1⟩
  exact PostG.now (b := FlV.nx (σ.set i (some v))) h1 ok1 ((en.mono ok f1.toFut0).set i1)
theorem ds_set (i : Nat) {x : Str} {p : Pos} (hN : X.N.Nodup) (he : PE X e (tE (sg X) E fe)) (hi : X.N[i]? = some x := by rfl) (hx : Loc X.env.scope x := by first | exact .inl rfl | exact .inr rfl) (hs : swapsWith e (some (.Name x p)) pos.line X.env = pure false := by rfl) (hf : X.fn x = true ∨ X.env.scope.names.lookup x = some .local := by first | exact .inl rfl | exact .inr rfl | assumption) :
    PS X (.Assign [.Name x p] e pos) (tS (sg X) E (fSet i fe)) := (ps_set hN hi hx he hs hf).weak set_weak
@[simp] def fPar (i j : Nat) (g : Fa) : Fs := fun env M => (g env M).bind fun l M1 => match l with
  | [x, y] => .ok (.nx ((env.set i (some x)).set j (some y))) M1
  | _ => .bad
theorem ds_par (i j : Nat) {x y : Str} {ga : Fa} {px py pt : Pos} {kt k2 pt2} (hc : X.calm = true) (hN : X.N.Nodup) (ha : PA X [a, b] (tA (sg X) E ga)) (hi : X.N[i]? = some x := by rfl) (hj : X.N[j]? = some y := by rfl) (hij : i ≠ j := by decide)
    (hx : X.env.scope.names.lookup x = some .local := by rfl) (hy : X.env.scope.names.lookup y = some .local := by rfl)
    (hw : swappedStores [.Tuple [.Name x px, .Name y py] kt pt] (.Tuple [a, b] k2 pt2) X.env = pure (some [x, y]) := by rfl)
    (hs : swapsWithSole [.Tuple [.Name x px, .Name y py] kt pt] (.Tuple [a, b] k2 pt2) pos.line X.env = pure false := by rfl) :
    PS X (.Assign [.Tuple [.Name x px, .Name y py] kt pt] (.Tuple [a, b] k2 pt2) pos) (tS (sg X) E (fPar i j ga)) := (ps_par hc hN hi hj hij hx hy ha hw hs).weak fun D σ H h => by
  obtain ⟨w, env, rfl, ok, en, h⟩ := h
  refine ⟨w, env, rfl, ok, en, (PostG.bind (I := IsAll X.K) h).imp ?_⟩
  rintro vs _ ⟨w1, d, rfl, ok1, f1, _, i1, h1⟩
  split at h1
  · cases i1 with
    | cons q r =>
      cases r with
      | cons q2 r =>
        cases r
        exact ⟨_, _, rfl, PostG.now (b := FlV.nx _) h1 ok1 (((en.mono ok f1.toFut0).set q).set q2)⟩
  · exact h1.elim
/-- a, b = a value -/
@[simp] def fUn (p : Pat) (f : Fe) : Fs := fun env M => (f env M).bind fun d M1 => match putD p d env with
  | some env1 => .ok (.nx env1) M1
  | none => .bad
theorem ds_un {p : Pat} {tg : Expr} (he : PE X e (tE (sg X) E fe)) (hg : PG X tg (gP X.K p)) (hs : swapsWithSole [tg] e pos.line X.env = pure false := by rfl) (hw : swappedStores [tg] e X.env = pure none := by rfl)
    (h1 : (assignEach [tg] X.env).map (·.2) = [assign tg X.env] := by rfl) : PS X (.Assign [tg] e pos) (tS (sg X) E (fUn p fe)) := (ps_asg he hg hs hw h1).weak fun D σ H h => by
  obtain ⟨w, env, rfl, ok, en, h⟩ := h
  refine ⟨w, env, rfl, ok, en, (PostG.bind (I := Is X.K) h).imp ?_⟩
  rintro v _ ⟨w1, d, rfl, ok1, f1, _, i1, h1⟩
  split at h1
  · rename_i env1 e1
    obtain ⟨σ', en1, q, _⟩ := gP_run (en.mono ok f1.toFut0) i1 e1
    exact q _ (PostG.now (b := FlV.nx σ') h1 ok1 en1)
  · exact h1.elim

/-! ### for -/
@[simp] def loopF (M0 : Mem) (pin : List Nat) (p : Pat) (b : Fs) : List D → Fs
  | [] => fun env M => if chk M0 pin M = true then .ok (.nx env) M else .bad
  | d :: r => fun env M => if chk M0 pin M = true then (match putD p d env with
      | some env1 => (b env1 M).bind fun fl M1 => (match fl with
        | .nx env2 => loopF M0 pin p b r env2 M1
        | .ct env2 => loopF M0 pin p b r env2 M1
        | .bk env2 => .ok (.nx env2) M1
        | .rt d => .ok (.rt d) M1)
      | none => .bad) else .bad
@[simp] def fFor (it : Fi) (p : Pat) (b : Fs) : Fs := fun env M => (it env M).bind fun l M1 => loopF M1 l.2 p b l.1 env M1
theorem drop_cons {α : Type} {l : List α} {i : Nat} (h : i < l.length) : l.drop i = l[i] :: l.drop (i + 1) := List.drop_eq_getElem_cons h
theorem ds_for {tg iter : Expr} {body : List Stmt} {fi : Fi} {p : Pat} {fb : Fs} (hp : PassesOwn (model X.prog X.w) X.A X.env X.xe) (hc : X.calm = true) (hi : PI X tg iter (tIt (sg X) E fi)) (hg : PG X tg (gP X.K p)) (hb : PSs X body (tS (sg X) E fb))
    (hs : ∀ x, foldedSetIterable iter X.env x = pure x := by intro _; rfl) : PS X (.For tg iter body [] pos) (tS (sg X) E (fFor fi p fb)) := (ps_for hp hc hi hg hb hs).weak fun D σ H h => by
  obtain ⟨w, env, rfl, ok, en, h⟩ := h
  refine ⟨w, env, rfl, ok, en, (PostG.bind (I := fun w a J => Goes (sg X) w J a.1 a.2) h).imp ?_⟩
  rintro J _ ⟨w0, ⟨items, pin⟩, rfl, ok0, f0, _, go, h0⟩
  have h0 : PostG (sg X) (FlI X.K) w0 E (loopF w0.M pin p fb items env w0.M) (dQ D) := h0
  have go : Goes (sg X) w0 J items pin := go
  refine ⟨fun i m σ H => m = items.length - i ∧ i ≤ items.length ∧ ∃ w env, w.H = H ∧ w.Ok (sg X) ∧ Fut w0 w ∧ EnvIs X.K w env σ ∧ PostG (sg X) (FlI X.K) w E (loopF w0.M pin p fb (items.drop i) env w.M) (dQ D), ⟨items.length, by simp, Nat.zero_le _, w0, env, rfl, ok0, Fut.refl w0, en.mono ok f0.toFut0, h0⟩, ?_⟩
  rintro i m σ _ ⟨rfl, hi, w1, env1, rfl, ok1, f1, en1, h1⟩
  by_cases hl : i < items.length
  · right
    rw [drop_cons hl] at h1
    unfold loopF at h1
    split at h1
    · rename_i hck
      obtain ⟨g1, g2⟩ := go.go i items[i] w1 ok1 f1 hck (List.getElem?_eq_getElem hl)
      refine ⟨g1, fun σ H => i + 1 ≤ items.length ∧ ∃ w env, w.H = H ∧ w.Ok (sg X) ∧ Fut w0 w ∧ EnvIs X.K w env σ ∧ PostG (sg X) (FlI X.K) w E (loopF w0.M pin p fb (items.drop (i + 1)) env w.M) (dQ D), fun σ' H' q => ⟨items.length - (i + 1), by omega, rfl, q.1, q.2⟩, fun x H' hy => ?_⟩
      obtain ⟨w2, ok2, f2, eM, rfl, i2⟩ := g2 x H' hy
      split at h1
      · rename_i env2 e2
        obtain ⟨σ2, en2, q, _⟩ := gP_run (en1.mono ok1 f2.toFut0) i2 e2
        refine q _ ⟨w2, env2, rfl, ok2, en2, ?_⟩
        have h2 := PostG.fut h1 ok2 f2
        rw [← eM] at h2
        refine (PostG.bind (I := FlI X.K) h2).imp ?_
        rintro fl _ ⟨w3, a, rfl, ok3, f3, _, i3, h3⟩
        have f03 : Fut w0 w3 := (f1.trans ok1 f2).trans ok2 f3
        cases a with
        | nx env3 =>
          cases fl with
          | nx σ3 => exact ⟨hl, w3, env3, rfl, ok3, f03, i3, h3⟩
          | _ => exact i3.elim
        | ct env3 =>
          cases fl with
          | ct σ3 => exact ⟨hl, w3, env3, rfl, ok3, f03, i3, h3⟩
          | _ => exact i3.elim
        | bk env3 =>
          cases fl with
          | bk σ3 => exact PostG.now (Q := dQ D) (b := FlV.nx σ3) h3 ok3 i3
          | _ => exact i3.elim
        | rt d =>
          cases fl with
          | rt v => exact PostG.now (Q := dQ D) (b := FlV.rt v) h3 ok3 i3
          | _ => exact i3.elim
      · exact h1.elim
    · exact h1.elim
  · left
    have e : items.drop i = [] := List.drop_eq_nil_of_le (by omega)
    rw [e] at h1
    unfold loopF at h1
    split at h1
    · rename_i hck
      exact ⟨go.stop i w1 ok1 f1 hck (by omega), PostG.now (b := FlV.nx σ) h1 ok1 en1⟩
    · exact h1.elim
end
end Dl

set_option maxHeartbeats 1000000
/-! The data layer, part I: comprehensions. -/
namespace Dl
open PySem PySem.Spec PyProof.Rows L2

def E0 : XK := fun _ _ _ => False
def Res.nx {α : Type} (r : Res α) : Res α := match r with
  | .ok a M => .ok a M
  | _ => .bad
@[simp] theorem nx_ok {α : Type} (a : α) (M : Mem) : (Res.ok a M).nx = .ok a M := rfl
@[simp] theorem nx_ite {α : Type} {c : Prop} [Decidable c] (r s : Res α) : (if c then r else s).nx = if c then r.nx else s.nx := by split <;> rfl
@[simp] theorem nx_bad {α : Type} : (Res.bad : Res α).nx = .bad := rfl
@[simp] def compF (M0 : Mem) (pin : List Nat) (p : Pat) (t : Ft) (f : Fe) (env0 : Env) : List D → Mem → Res (List D)
  | [], M => if chk M0 pin M = true then .ok [] M else .bad
  | d :: r, M => if chk M0 pin M = true then (match putD p d env0 with
    | some env1 => (t env1 M).nx.bind fun c M1 => if c = true then (f env1 M1).nx.bind fun y M2 => (compF M0 pin p t f env0 r M2).bind fun ys M3 => .ok (y :: ys) M3 else compF M0 pin p t f env0 r M1
    | none => .bad) else .bad
@[simp] def fLc (own : List Nat) (fi : Fi) (p : Pat) (t : Ft) (f : Fe) : Fa := fun env M => (fi env M).bind fun l M1 => compF M1 l.2 p t f (wipeE env own) l.1 M1
@[simp] def tYesF : Ft := fun _ M => .ok true M
section
variable {X : Cx} {E : XK} {G : Sg} {w w1 : Wd}
theorem PostL.fut {r : Res (List D)} {Q : VK} (h : PostL G w E r Q) (ok1 : w1.Ok G) (f : Fut w w1) : PostL G w1 E r Q := by
  cases r with
  | ok l M' => exact fun w' a vs ok' f' e hn => h w' a vs ok' (f.trans ok1 f') e (f.free ok1 hn)
  | exc C fs M' => exact fun w' oa ok' f' e => h w' oa ok' (f.trans ok1 f') e
  | bad => exact h
theorem PostL.bindI {α β : Type} {I : Wd → α → β → Prop} {r : Res α} {k : α → Mem → Res (List D)} {Q : VK} (h : PostL G w E (r.bind k) Q) :
    PostG G I w E r fun b H1 => ∃ w1 a, w1.H = H1 ∧ w1.Ok G ∧ Fut w w1 ∧ r = .ok a w1.M ∧ I w1 a b ∧ PostL G w1 E (k a w1.M) Q := by
  cases r with
  | ok a M' =>
    intro w1 b ok1 f e i
    subst e
    exact ⟨w1, a, rfl, ok1, f, rfl, i, PostL.fut h ok1 f⟩
  | exc C fs M' => exact fun w1 oa ok1 f e i => h w1 oa ok1 f e i
  | bad => exact h
theorem wipe_wipe {σ : L2.St} {vs : List Nat} : ∀ {us : List Nat}, (∀ i ∈ us, i ∈ vs) → wipe (wipe σ us) vs = wipe σ vs
  | [], _ => rfl
  | u :: us, h => by
    show wipe ((wipe σ us).set u none) vs = _
    rw [wipe_set_in (h u List.mem_cons_self)]
    exact wipe_wipe fun i hi => h i (List.mem_cons_of_mem _ hi)
theorem pts_yes {ifs : List Expr} (h : ifs = []) : PTs X ifs (tT (sg X) E tYesF) := by
  subst h
  exact ⟨fun pins s σ H Q I q => by
    obtain ⟨w, env, rfl, ok, en, q⟩ := q
    exact pts_nil.run pins s σ _ Q I (PostG.now q ok rfl)⟩
theorem lc_weak {p : Pat} {fi : Fi} {t : Ft} {f : Fe} {vs : List Nat} (hp : ∀ i ∈ p.ix, i ∈ vs) : ∀ σ H Q, tL (sg X) E (fLc vs fi p t f) σ H Q → tLc (tIt (sg X) E fi) (gP X.K p) (tT (sg X) E0 t) (tE (sg X) E0 f) vs σ H Q := fun σ H Q h => by
  obtain ⟨w, env, rfl, ok, en, h⟩ := h
  refine ⟨w, env, rfl, ok, en, (PostL.bindI (I := fun w a J => Goes (sg X) w J a.1 a.2) h).imp ?_⟩
  rintro J _ ⟨w0, ⟨items, pin⟩, rfl, ok0, f0, _, go, h0⟩ P0 hD
  have h0 : PostL (sg X) w0 E (compF w0.M pin p t f (wipeE env vs) items w0.M) Q := h0
  have go : Goes (sg X) w0 J items pin := go
  have en0 := en.mono ok f0.toFut0
  obtain ⟨fD, okD⟩ := ok0.add hD (.lst [])
  let W : Nat → Nat → Hp → Prop := fun i m H => m = items.length - i ∧ i ≤ items.length ∧ ∃ w acc us, w.H = H ∧ w.Ok (sg X) ∧ Fut w0 w ∧ Apart w P0 (.lst us) ∧ IsAll X.K w acc us ∧ acc.length ≤ i ∧
    PostL (sg X) w0 E ((compF w0.M pin p t f (wipeE env vs) (items.drop i) w.M).bind fun ys M => .ok (acc ++ ys) M) Q
  refine ⟨W, ⟨items.length, by simp, Nat.zero_le _, _, [], [], rfl, okD, fD, ⟨upd_same, fun _ z => (nomatch z), fun z => ok0.frz P0 z hD, fun m hm => ok0.ne_fresh hD hm⟩, .nil, Nat.le_refl _, ?_⟩, ?_⟩
  · show PostL (sg X) w0 E ((compF w0.M pin p t f (wipeE env vs) items w0.M).bind fun ys M => .ok ys M) Q
    cases q : compF w0.M pin p t f (wipeE env vs) items w0.M with
    | ok l M => rw [q] at h0; exact h0
    | exc C fs M => rw [q] at h0; exact h0
    | bad => rw [q] at h0; exact h0
  rintro i m _ ⟨rfl, hi, w1, acc, us, rfl, ok1, f1, ap, ia, hacc, h1⟩
  by_cases hl : i < items.length
  · right
    rw [drop_cons hl] at h1
    unfold compF at h1
    split at h1
    · rename_i hck
      obtain ⟨g1, g2⟩ := go.go i items[i] w1 ok1 f1 hck (List.getElem?_eq_getElem hl)
      refine ⟨g1, fun H => ∃ m', W (i + 1) m' H ∧ m' < items.length - i, fun H' ⟨m', z, lt⟩ => ⟨m', lt, z⟩, fun x H' hy => ?_⟩
      obtain ⟨w2, ok2, f2, eM, rfl, i2⟩ := g2 x H' hy
      split at h1
      · rename_i env2 e2
        obtain ⟨σ2, en2, q, wp⟩ := gP_run ((en0.mono ok0 f1.toFut0).mono ok1 f2.toFut0 |>.wipe vs) i2 e2
        refine q _ ⟨(wp vs hp).trans (wipe_wipe fun i hi => hi), w2, env2, rfl, ok2, en2, ?_⟩
        have next : ∀ {w3 : Wd} {acc3 : List D} {us3 : List V}, w3.Ok (sg X) → Fut w0 w3 → Apart w3 P0 (.lst us3) → IsAll X.K w3 acc3 us3 → acc3.length ≤ i + 1 →
            PostL (sg X) w0 E ((compF w0.M pin p t f (wipeE env vs) (items.drop (i + 1)) w3.M).bind fun ys M => .ok (acc3 ++ ys) M) Q → ∃ m', W (i + 1) m' w3.H ∧ m' < items.length - i :=
          fun {w3 acc3 us3} a b c d e f => ⟨_, ⟨rfl, hl, w3, acc3, us3, rfl, a, b, c, d, e, f⟩, by omega⟩
        rw [← eM] at h1
        cases q1 : t env2 w2.M with
        | bad => rw [q1] at h1; exact h1.elim
        | exc C fs M => rw [q1] at h1; exact h1.elim
        | ok c M1 =>
          rw [q1] at h1
          simp only [nx_ok, bind_ok] at h1
          intro w3 b ok3 f3 e3 hb
          subst hb e3
          have f13 := f2.trans ok2 f3
          have ap3 := ap.fut f13
          cases c with
          | false =>
            rw [if_neg Bool.false_ne_true]
            rw [if_neg Bool.false_ne_true] at h1
            exact next ok3 (f1.trans ok1 f13) ap3 (ia.mono ok1 f13.toFut0) (Nat.le_succ_of_le hacc) h1
          | true =>
            rw [if_pos rfl]
            rw [if_pos rfl] at h1
            refine ⟨w3, env2, rfl, ok3, en2.mono ok2 f3.toFut0, ?_⟩
            cases q2 : f env2 w3.M with
            | bad => rw [q2] at h1; exact h1.elim
            | exc C fs M => rw [q2] at h1; exact h1.elim
            | ok y M2 =>
              rw [q2] at h1
              simp only [nx_ok, bind_ok] at h1
              intro w4 v ok4 f4 e4 i4
              subst e4
              have f14 := f13.trans ok3 f4
              have ap4 := ap.fut f14
              obtain ⟨k5, ok5, ap5⟩ := ok4.wr (u := .lst (us ++ [v])) ap4 (fun _ z => nomatch z)
              have hlen : us.length ≤ i := by rw [ia.length]; exact hacc
              refine ⟨us, ap4.at_, by have := go.len; omega, next ok5 (Wd.Ok.wr_fut (f1.trans ok1 f14) hD) ap5 (((ia.mono ok1 f14.toFut0).append (.cons i4 .nil)).keep ok4 k5) (by rw [List.length_append]; simp; omega) ?_⟩
              show PostL (sg X) w0 E ((compF w0.M pin p t f (wipeE env vs) (items.drop (i + 1)) w4.M).bind fun ys M => .ok ((acc ++ [y]) ++ ys) M) Q
              rw [bind_assoc] at h1
              simp only [bind_ok] at h1
              simp only [List.append_assoc, List.singleton_append]
              exact h1
      · exact h1.elim
    · exact h1.elim
  · left
    have e : items.drop i = [] := List.drop_eq_nil_of_le (by omega)
    rw [e] at h1
    unfold compF at h1
    split at h1
    · rename_i hck
      refine ⟨go.stop i w1 ok1 f1 hck (by omega), ?_⟩
      exact h1 w1 P0 us ok1 f1 rfl hD ap.at_ ap.noF ap.out (by rw [List.append_nil]; exact ia)
    · exact h1.elim
theorem dl_lc {elt tg iter : Expr} {ifs : List Expr} {scope : Scope} {own : List (Str × Nat)} {pos : Pos} {fi : Fi} {p : Pat} {t : Ft} {f : Fe} (hc : X.calm = true) (hN : X.N.Nodup) (hi : PI X tg iter (tIt (sg X) E fi)) (hp : (p.ix.all fun i => decide (i ∈ own.map (·.2))) = true)
    (hg : ∀ (s : Shared) (H : Hp) (C : Addr) (cl : List (Str × Addr)) (fp : List Addr), PG (X.blk s H scope (compEnvC scope cl C X.env) fp) tg (gP X.K p)) (ht : ∀ (s : Shared) (H : Hp) (C : Addr) (cl : List (Str × Addr)) (fp : List Addr), PTs (X.blk s H scope (compEnvC scope cl C X.env) fp) ifs (tT (sg X) E0 t))
    (he : ∀ (s : Shared) (H : Hp) (C : Addr) (cl : List (Str × Addr)) (fp : List Addr), PE (X.blk s H scope (compEnvC scope cl C X.env) fp) elt (tE (sg X) E0 f)) (ok : blkC X.N X.env.scope scope own = true := by rfl) (hs : ∀ x, foldedSetIterable iter X.env x = pure x := by intro _; rfl) :
    PE X (.ListComp elt [⟨tg, iter, ifs, 0⟩] scope pos) (tL (sg X) E (fLc (own.map (·.2)) fi p t f)) := (pe_lc hc hN hi (blkOk_by ok) hg ht he hs).weak (lc_weak fun i hi => of_decide_eq_true (List.all_eq_true.mp hp i hi))
/-- y = [..] on one line -/
theorem ds_setLc (i : Nat) {y : Str} {py : Pos} {elt tg iter : Expr} {ifs : List Expr} {scope : Scope} {own : List (Str × Nat)} {pos spos : Pos} {fi : Fi} {p : Pat} {t : Ft} {f : Fe} {g : Fe} (hc : X.calm = true) (hN : X.N.Nodup)
    (hsw : swapsWith (.ListComp elt [⟨tg, iter, ifs, 0⟩] scope pos) (some (.Name y py)) spos.line X.env = pure true) (hi : PI X tg iter (tIt (sg X) E fi)) (hp : (p.ix.all fun i => decide (i ∈ own.map (·.2))) = true)
    (hg : ∀ (s : Shared) (H : Hp) (C : Addr) (cl : List (Str × Addr)) (fp : List Addr), PG (X.blk s H scope (compEnvC scope cl C X.env) fp) tg (gP X.K p)) (ht : ∀ (s : Shared) (H : Hp) (C : Addr) (cl : List (Str × Addr)) (fp : List Addr), PTs (X.blk s H scope (compEnvC scope cl C X.env) fp) ifs (tT (sg X) E0 t))
    (he : ∀ (s : Shared) (H : Hp) (C : Addr) (cl : List (Str × Addr)) (fp : List Addr), PE (X.blk s H scope (compEnvC scope cl C X.env) fp) elt (tE (sg X) E0 f)) (hg2 : ∀ σ H Q, tE (sg X) E g σ H Q → tL (sg X) E (fLc (own.map (·.2)) fi p t f) σ H Q) (hy : X.N[i]? = some y := by rfl) (hyl : X.env.scope.names.lookup y = some .local := by rfl) (ok : blkC X.N X.env.scope scope own = true := by rfl) (hs : ∀ x, foldedSetIterable iter X.env x = pure x := by intro _; rfl) :
    PS X (.Assign [.Name y py] (.ListComp elt [⟨tg, iter, ifs, 0⟩] scope pos) spos) (tS (sg X) E (fSet i g)) := (ps_setLc hc hN hy hyl hsw hi (blkOk_by ok) hg ht he hs).weak fun D σ H h => lc_weak (fun i hi => of_decide_eq_true (List.all_eq_true.mp hp i hi)) σ H _ (hg2 σ H _ (set_weak D σ H h))
end
end Dl

set_option maxHeartbeats 1000000
/-! The data layer, part J: calls of built-in functions, methods of lists. -/
namespace Dl
open PySem PySem.Spec PyProof.Rows L2

def asInts : List D → Option (List Int)
  | [] => some []
  | .int i :: r => (asInts r).map (i :: ·)
  | _ :: _ => none
def asBls : List D → Option (List Bool)
  | [] => some []
  | .bl i :: r => (asBls r).map (i :: ·)
  | _ :: _ => none
theorem asInts_is : ∀ {l : List D} {ns : List Int}, asInts l = some ns → l = ns.map D.int
  | [], _, h => by cases h; rfl
  | d :: r, ns, h => by
    cases d with
    | int i =>
      rw [asInts] at h
      obtain ⟨ms, e, rfl⟩ := Option.map_eq_some_iff.mp h
      rw [List.map_cons, ← asInts_is e]
    | _ => cases h
theorem asBls_is : ∀ {l : List D} {ns : List Bool}, asBls l = some ns → l = ns.map D.bl
  | [], _, h => by cases h; rfl
  | d :: r, ns, h => by
    cases d with
    | bl i =>
      rw [asBls] at h
      obtain ⟨ms, e, rfl⟩ := Option.map_eq_some_iff.mp h
      rw [List.map_cons, ← asBls_is e]
    | _ => cases h
@[simp] theorem asInts_map (ns : List Int) : asInts (ns.map D.int) = some ns := by
  induction ns with
  | nil => rfl
  | cons n ns ih => rw [List.map_cons, asInts, ih]; rfl
@[simp] theorem asBls_map (ns : List Bool) : asBls (ns.map D.bl) = some ns := by
  induction ns with
  | nil => rfl
  | cons n ns ih => rw [List.map_cons, asBls, ih]; rfl

abbrev Fk := List D → Mem → Res D
@[simp] def eB (k : Fk) (g : Fa) : Fe := fun env M => (g env M).bind fun l M1 => k l M1
section
variable {X : Cx} {E : XK} {a b e : Expr} {es : List Expr} {fa fb fe : Fe} {ga : Fa} {pos p : Pos} {w : Wd}
def Clo (X : Cx) (E : XK) (r : List V → Hp → VK → Prop) (k : Fk) : Prop := ∀ (w : Wd) (l : List D) (vs : List V) (Q : VK), w.Ok (sg X) → IsAll X.K w l vs → PostG (sg X) (Is X.K) w E (k l w.M) Q → r vs w.H Q
theorem eb_weak {r : List V → Hp → VK → Prop} {k : Fk} (o : Clo X E r k) : ∀ σ H Q, tE (sg X) E (eB k ga) σ H Q → tCB r (tA (sg X) E ga) σ H Q := fun σ H Q h => by
  obtain ⟨w, env, rfl, ok, en, h⟩ := h
  refine ⟨w, env, rfl, ok, en, (PostG.bind (I := IsAll X.K) h).imp ?_⟩
  rintro b _ ⟨w1, a, rfl, ok1, f1, _, i1, h1⟩
  exact o w1 a b Q ok1 i1 h1
theorem de_callB {id : String} {x : Str} {r : List V → Hp → VK → Prop} {k : Fk} (hc : CallR X (.builtin id) r) (o : Clo X E r k) (hg : Gl X x) (hm : X.mg x = none) (ha : PA X (e :: es) (tA (sg X) E ga)) (hv : bootBuiltins x = some (.builtin id) := by rfl) (hn : x ≠ "__name__" := by decide) (hdb : (x == ("__debug__" : Str)) = false := by decide)
    (he : starEach (e :: es) X.env = (false, eval e X.env) :: starEach es X.env := by rfl) (hpl : (backTo pos (starEach es X.env)).any (·.1) = false := by rfl) : PE X (.Call (.Name x p) (e :: es) [] pos) (tE (sg X) E (eB k ga)) :=
  (pe_callB hc hg hm hv ha hn hdb he hpl).weak (eb_weak o)
theorem de_callTy {T : String} {x : Str} {r : List V → Hp → VK → Prop} {k : Fk} (hc : CallR X (.type T) r) (o : Clo X E r k) (hg : Gl X x) (hm : X.mg x = none) (ha : PA X (e :: es) (tA (sg X) E ga)) (hv : bootBuiltins x = some (.type T) := by rfl) (hn : x ≠ "__name__" := by decide) (hdb : (x == ("__debug__" : Str)) = false := by decide)
    (he : starEach (e :: es) X.env = (false, eval e X.env) :: starEach es X.env := by rfl) (hpl : (backTo pos (starEach es X.env)).any (·.1) = false := by rfl) : PE X (.Call (.Name x p) (e :: es) [] pos) (tE (sg X) E (eB k ga)) :=
  (pe_callTy hc hg hm hv ha hn hdb he hpl).weak (eb_weak o)
theorem CallR.or {f : Value} {r r' : List V → Hp → VK → Prop} (h : CallR X f r) (h' : CallR X f r') : CallR X f (fun x H Q => r x H Q ∨ r' x H Q) := fun pins s σ H xs us Q I rr q => q.elim (h pins s σ H xs us Q I rr) (h' pins s σ H xs us Q I rr)

/-- len of a list, a tuple, a text -/
@[simp] def kLen (l : List D) (M : Mem) : Res D := match l with
  | [.tup t] => .ok (.int (t.length : Nat)) M
  | [.str x] => if x.length ≤ sizeLine then .ok (.int (x.length : Nat)) M else .bad
  | [d] => (match asR M d with
    | some t => .ok (.int (t.length : Nat)) M
    | none => .bad)
  | _ => .bad
theorem clo_len : Clo X E (fun xs H Q => (∃ p ys, xs = [.ref p] ∧ (SqL X.K H p ys ∨ SqT X.K H p ys) ∧ Q (.int ys.length) H) ∨ (∃ z, xs = [.str z] ∧ z.length ≤ sizeLine ∧ Q (.int z.length) H)) kLen := fun w l vs Q ok il h => by
  unfold kLen at h
  split at h
  · cases il with
    | cons i r =>
      cases r
      cases i with
      | @tup _ p us h1 h2 =>
        refine .inl ⟨p, us, rfl, .inr (.inl (.inl h1)), ?_⟩
        rw [h2.length]
        exact PostG.now h ok (.int _)
  · split at h
    · rename_i hl
      cases il with
      | cons i r =>
        cases r; cases i
        exact .inr ⟨_, rfl, hl, PostG.now h ok (.int _)⟩
    · exact h.elim
  · split at h
    · rename_i t ht
      cases il with
      | cons i r =>
        cases r
        obtain ⟨p, us, rfl, h1, h2⟩ := asR_is ok i ht
        refine .inl ⟨p, us, rfl, .inl h1, ?_⟩
        rw [h2.length]
        exact PostG.now h ok (.int _)
    · exact h.elim
  · exact h.elim
@[simp] def kI1 (g : Int → D) (l : List D) (M : Mem) : Res D := match l with
  | [.int i] => .ok (g i) M
  | _ => .bad
@[simp] def kAbs : Fk := kI1 fun i => .int (if i < 0 then -i else i)
@[simp] def kInt1 : Fk := kI1 .int
theorem clo_abs : Clo X E (fun xs H Q => ∃ i, xs = [.int i] ∧ Q (.int (if i < 0 then -i else i)) H) kAbs := fun w l vs Q ok il h => by
  unfold kAbs kI1 at h
  split at h
  · cases il with
    | cons i r =>
      cases r; cases i
      exact ⟨_, rfl, PostG.now h ok (.int _)⟩
  · exact h.elim
theorem clo_int1 : Clo X E (fun xs H Q => (∃ i, xs = [.int i] ∧ Q (.int i) H) ∨ ∃ k, xs = [.bl k] ∧ Q (.int (if k then 1 else 0)) H) kInt1 := fun w l vs Q ok il h => by
  unfold kInt1 kI1 at h
  split at h
  · cases il with
    | cons i r =>
      cases r; cases i
      exact .inl ⟨_, rfl, PostG.now h ok (.int _)⟩
  · exact h.elim
@[simp] def kI2 (C : Int → Int → Bool) (g : Int → Int → D) (l : List D) (M : Mem) : Res D := match l with
  | [.int i, .int j] => if C i j = true then .ok (g i j) M else .bad
  | _ => .bad
@[simp] def kMax2 : Fk := kI2 (fun _ _ => true) fun i j => .int (if j > i then j else i)
@[simp] def kMin2 : Fk := kI2 (fun _ _ => true) fun i j => .int (if j < i then j else i)
@[simp] def kDivmod : Fk := kI2 (fun _ j => decide (0 < j) && decide (j < 1073741824)) fun i j => .tup [.int (i / j), .int (i % j)]
theorem clo_max2 : Clo X E (fun xs H Q => ∃ i j, xs = [.int i, .int j] ∧ Q (.int (if j > i then j else i)) H) kMax2 := fun w l vs Q ok il h => by
  unfold kMax2 kI2 at h
  split at h
  · cases il with
    | cons i r =>
      cases r with
      | cons j r =>
        cases r; cases i; cases j
        exact ⟨_, _, rfl, PostG.now h ok (.int _)⟩
  · exact h.elim
theorem clo_min2 : Clo X E (fun xs H Q => ∃ i j, xs = [.int i, .int j] ∧ Q (.int (if j < i then j else i)) H) kMin2 := fun w l vs Q ok il h => by
  unfold kMin2 kI2 at h
  split at h
  · cases il with
    | cons i r =>
      cases r with
      | cons j r =>
        cases r; cases i; cases j
        exact ⟨_, _, rfl, PostG.now h ok (.int _)⟩
  · exact h.elim
theorem clo_divmod : Clo X E (fun xs H Q => ∃ i j, xs = [.int i, .int j] ∧ CDiv i j ∧ ∀ p, H p = none → Q (.ref p) (upd H p (.tup [.int (i / j), .int (i % j)]))) kDivmod := fun w l vs Q ok il h => by
  unfold kDivmod kI2 at h
  split at h
  · split at h
    · rename_i hc
      rw [Bool.and_eq_true, decide_eq_true_eq, decide_eq_true_eq] at hc
      cases il with
      | cons i r =>
        cases r with
        | cons j r =>
          cases r; cases i; cases j
          exact ⟨_, _, rfl, hc, post_tup ok h (.cons (.int _) (.cons (.int _) .nil))⟩
    · exact h.elim
  · exact h.elim
@[simp] def kB1 (g : List Bool → D) (l : List D) (M : Mem) : Res D := match l with
  | [d] => (match asR M d with
    | some t => (match asBls t with
      | some bs => .ok (g bs) M
      | none => .bad)
    | none => .bad)
  | _ => .bad
@[simp] def kN1 (C : List Int → Bool) (g : List Int → D) (l : List D) (M : Mem) : Res D := match l with
  | [d] => (match asR M d with
    | some t => (match asInts t with
      | some bs => if C bs = true then .ok (g bs) M else .bad
      | none => .bad)
    | none => .bad)
  | _ => .bad
@[simp] def kAll : Fk := kB1 fun bs => .bl (bs.all id)
@[simp] def kAny : Fk := kB1 fun bs => .bl (bs.any id)
theorem clo_b1 {g : List Bool → D} {gv : List Bool → V} (hg : ∀ w bs, Is X.K w (g bs) (gv bs)) : Clo X E (fun vs H Q => ∃ (a : Addr) (bs : List Bool), vs = [V.ref a] ∧ SqL X.K H a (bs.map V.bl) ∧ Q (gv bs) H) (kB1 g) := fun w l vs Q ok il h => by
  unfold kB1 at h
  split at h
  · split at h
    · rename_i t ht
      split at h
      · rename_i bs hb
        cases il with
        | cons i r =>
          cases r
          obtain ⟨p, us, rfl, h1, h2⟩ := asR_is ok i ht
          rw [asBls_is hb] at h2
          have e := h2.bls
          subst e
          exact ⟨p, bs, rfl, h1, PostG.now h ok (hg w bs)⟩
      · exact h.elim
    · exact h.elim
  · exact h.elim
theorem clo_all : Clo X E (rAll X.K) kAll := clo_b1 (gv := fun bs => .bl (bs.all id)) fun _ _ => .bl _
theorem clo_any : Clo X E (rAny X.K) kAny := clo_b1 (gv := fun bs => .bl (bs.any id)) fun _ _ => .bl _
def maxI : List Int → Int
  | [] => 0
  | [i] => i
  | i :: r => if maxI r < i then i else maxI r
def minI : List Int → Int
  | [] => 0
  | [i] => i
  | i :: r => if i < minI r then i else minI r
theorem maxI_is : ∀ (ns : List Int), ns ≠ [] → maxI ns ∈ ns ∧ ∀ y ∈ ns, y ≤ maxI ns
  | [], h => absurd rfl h
  | [i], _ => ⟨List.mem_singleton.mpr rfl, fun y hy => by rw [List.mem_singleton.mp hy]; exact Int.le_refl _⟩
  | i :: j :: r, _ => by
    obtain ⟨h1, h2⟩ := maxI_is (j :: r) (by simp)
    unfold maxI
    split
    · rename_i h
      exact ⟨List.mem_cons_self, fun y hy => (List.mem_cons.mp hy).elim (fun e => by omega) fun hy => by have := h2 y hy; omega⟩
    · rename_i h
      exact ⟨List.mem_cons_of_mem _ h1, fun y hy => (List.mem_cons.mp hy).elim (fun e => by omega) fun hy => h2 y hy⟩
theorem minI_is : ∀ (ns : List Int), ns ≠ [] → minI ns ∈ ns ∧ ∀ y ∈ ns, minI ns ≤ y
  | [], h => absurd rfl h
  | [i], _ => ⟨List.mem_singleton.mpr rfl, fun y hy => by rw [List.mem_singleton.mp hy]; exact Int.le_refl _⟩
  | i :: j :: r, _ => by
    obtain ⟨h1, h2⟩ := minI_is (j :: r) (by simp)
    unfold minI
    split
    · rename_i h
      exact ⟨List.mem_cons_self, fun y hy => (List.mem_cons.mp hy).elim (fun e => by omega) fun hy => by have := h2 y hy; omega⟩
    · rename_i h
      exact ⟨List.mem_cons_of_mem _ h1, fun y hy => (List.mem_cons.mp hy).elim (fun e => by omega) fun hy => h2 y hy⟩
@[simp] def kSum : Fk := kN1 (fun _ => true) fun ns => .int ns.sum
def kMax1 : Fk := kN1 (fun ns => !ns.isEmpty) fun ns => .int (maxI ns)
def kMin1 : Fk := kN1 (fun ns => !ns.isEmpty) fun ns => .int (minI ns)
theorem kN1_is {C : List Int → Bool} {g : List Int → D} {gv : List Int → V} (hg : ∀ w bs, Is X.K w (g bs) (gv bs)) {l : List D} {vs : List V} {Q : VK} (ok : w.Ok (sg X)) (il : IsAll X.K w l vs) (h : PostG (sg X) (Is X.K) w E (kN1 C g l w.M) Q) :
    ∃ (a : Addr) (ns : List Int), vs = [V.ref a] ∧ SqL X.K w.H a (ns.map V.int) ∧ C ns = true ∧ Q (gv ns) w.H := by
  unfold kN1 at h
  split at h
  · split at h
    · rename_i t ht
      split at h
      · rename_i bs hb
        split at h
        · rename_i hc
          cases il with
          | cons i r =>
            cases r
            obtain ⟨p, us, rfl, h1, h2⟩ := asR_is ok i ht
            rw [asInts_is hb] at h2
            have e := h2.ints
            subst e
            exact ⟨p, bs, rfl, h1, hc, PostG.now h ok (hg w bs)⟩
        · exact h.elim
      · exact h.elim
    · exact h.elim
  · exact h.elim
theorem clo_sum : Clo X E (rSum X.K) kSum := fun w l vs Q ok il h => by
  obtain ⟨a, ns, h1, h2, _, q⟩ := kN1_is (gv := fun ns => .int ns.sum) (fun _ _ => .int _) ok il h
  exact ⟨a, ns, h1, h2, q⟩
theorem ne_of_bang {ns : List Int} (h : (!ns.isEmpty) = true) : ns ≠ [] := by cases ns; cases h; simp
theorem clo_max1 : Clo X E (rMax X.K) kMax1 := fun w l vs Q ok il h => by
  obtain ⟨a, ns, h1, h2, hc, q⟩ := kN1_is (gv := fun ns => .int (maxI ns)) (fun _ _ => .int _) ok il h
  have hn := ne_of_bang hc
  refine ⟨a, ns, h1, h2, List.length_pos_iff.mpr hn, fun m hm hy => ?_⟩
  obtain ⟨h3, h4⟩ := maxI_is ns hn
  have e : m = maxI ns := Int.le_antisymm (h4 m hm) (hy _ h3)
  rw [e]; exact q
theorem clo_min1 : Clo X E (rMin X.K) kMin1 := fun w l vs Q ok il h => by
  obtain ⟨a, ns, h1, h2, hc, q⟩ := kN1_is (gv := fun ns => .int (minI ns)) (fun _ _ => .int _) ok il h
  have hn := ne_of_bang hc
  refine ⟨a, ns, h1, h2, List.length_pos_iff.mpr hn, fun m hm hy => ?_⟩
  obtain ⟨h3, h4⟩ := minI_is ns hn
  have e : m = minI ns := Int.le_antisymm (hy _ h3) (h4 m hm)
  rw [e]; exact q
/-- tuple(xs), list(xs) -/
@[simp] def kTupOf (l : List D) (M : Mem) : Res D := match l with
  | [.tup t] => .ok (.tup t) M
  | [d] => (match asR M d with
    | some t => .ok (.tup t) M
    | none => .bad)
  | _ => .bad
theorem clo_tupOf : Clo X E (fun xs H Q => ∃ p ys, xs = [.ref p] ∧ ((SqL X.K H p ys ∧ ∀ l, H l = none → Q (.ref l) (upd H l (.tup ys))) ∨ (SqT X.K H p ys ∧ Q (.ref p) H))) kTupOf := fun w l vs Q ok il h => by
  unfold kTupOf at h
  split at h
  · cases il with
    | cons i r =>
      cases r
      cases i with
      | @tup _ p us h1 h2 => exact ⟨p, us, rfl, .inr ⟨.inl (.inl h1), PostG.now h ok (.tup h1 h2)⟩⟩
  · split at h
    · rename_i t ht
      cases il with
      | cons i r =>
        cases r
        obtain ⟨p, us, rfl, h1, h2⟩ := asR_is ok i ht
        exact ⟨p, us, rfl, .inl ⟨h1, post_tup ok h h2⟩⟩
    · exact h.elim
  · exact h.elim
/-- the items of a list or a tuple -/
@[simp] def asQ (M : Mem) (d : D) : Option (List D) := match d with
  | .tup t => some t
  | d => asR M d
theorem asQ_is (ok : w.Ok (sg X)) {d : D} {v : V} {l : List D} (h : Is X.K w d v) (e : asQ w.M d = some l) : ∃ a vs, v = .ref a ∧ (SqL X.K w.H a vs ∨ SqT X.K w.H a vs) ∧ IsAll X.K w l vs := by
  unfold asQ at e
  split at e
  · cases e
    cases h with
    | @tup _ p us h1 h2 => exact ⟨p, us, rfl, .inr (.inl (.inl h1)), h2⟩
  · obtain ⟨p, us, h0, h1, h2⟩ := asR_is ok h e
    exact ⟨p, us, h0, .inl h1, h2⟩
@[simp] def kQ1 (l : List D) (M : Mem) : Res (List D) := match l with
  | [d] => (match asQ M d with
    | some t => .ok t M
    | none => .bad)
  | _ => .bad
/-- list(xs): a new list -/
@[simp] def fLstOf (g : Fa) : Fa := fun env M => (g env M).bind fun l M1 => kQ1 l M1
theorem dl_lstOf {x : Str} (hg : Gl X x) (hm : X.mg x = none) (ha : PA X (e :: es) (tA (sg X) E ga)) (hv : bootBuiltins x = some (.type "list") := by rfl) (hn : x ≠ "__name__" := by decide) (hdb : (x == ("__debug__" : Str)) = false := by decide)
    (he : starEach (e :: es) X.env = (false, eval e X.env) :: starEach es X.env := by rfl) (hpl : (backTo pos (starEach es X.env)).any (·.1) = false := by rfl) : PE X (.Call (.Name x p) (e :: es) [] pos) (tL (sg X) E (fLstOf ga)) :=
  (pe_callTy call_list_of hg hm hv ha hn hdb he hpl).weak fun σ H Q h => by
  obtain ⟨w, env, rfl, ok, en, h⟩ := h
  refine ⟨w, env, rfl, ok, en, (PostL.bindI (I := IsAll X.K) h).imp ?_⟩
  rintro b _ ⟨w1, a, rfl, ok1, f1, _, il, h1⟩
  unfold kQ1 at h1
  split at h1
  · split at h1
    · rename_i t ht
      cases il with
      | cons i r =>
        cases r
        obtain ⟨p, us, rfl, h2, h3⟩ := asQ_is ok1 i ht
        exact ⟨p, us, rfl, h2, fun l hl => post_new ok1 ok1 (Fut.refl w1) h1 h3 l hl hl⟩
    · exact h1.elim
  · exact h1.elim
/-- isinstance(x, T) -/
@[simp] def tyN (M : Mem) (d : D) : Option String := match d with
  | .non => some "NoneType"
  | .bl _ => some "bool"
  | .int _ => some "int"
  | .str _ => some "str"
  | .tup _ => some "tuple"
  | .lst _ => some "list"
  | .adr n => (match M[n]? with
    | some (some (.lst _)) => some "list"
    | _ => none)
  | _ => none
theorem tyN_is (ok : w.Ok (sg X)) {d : D} {v : V} {n : String} (h : Is X.K w d v) (e : tyN w.M d = some n) : TyX X.K w.H v (.type n) := by
  unfold tyN at e
  split at e
  · cases h; cases e; exact .base .non
  · cases h; cases e; exact .base (.bl _)
  · cases h; cases e; exact .base (.int _)
  · cases h; cases e; exact .base (.str _)
  · cases e
    cases h with
    | tup h1 h2 => exact .base (.tup h1)
  · cases e
    cases h with
    | lst h0 h1 h2 => exact .base (.lst h1)
  · split at e
    · rename_i hm
      cases e
      cases h with
      | adr hn =>
        obtain ⟨vs, h1, h2⟩ := (ok.obj _ _ hm).1
        exact .base (.lst h1)
    · cases e
  · cases e
@[simp] def kIsi (l : List D) (M : Mem) : Res D := match l with
  | [d, .ty n] => (match tyN M d with
    | some t => (match kitB t n with
      | some b => .ok (.bl b) M
      | none => .bad)
    | none => .bad)
  | _ => .bad
theorem clo_isi : Clo X E (rIsi X.K) kIsi := fun w l vs Q ok il h => by
  unfold kIsi at h
  split at h
  · split at h
    · rename_i t ht
      split at h
      · rename_i b hb
        cases il with
        | cons i r =>
          cases r with
          | cons j r =>
            cases r; cases j
            exact ⟨_, _, _, _, b, rfl, .ty _, tyN_is ok i ht, kit_ty hb, PostG.now h ok (.bl _)⟩
      · exact h.elim
    · exact h.elim
  · exact h.elim
theorem de_ty (n : String) {x : Str} {pos : Pos} (hg : Gl X x) (hm : X.mg x = none) (hv : bootBuiltins x = some (.type n) := by rfl) (hn : x ≠ "__name__" := by decide) (hd : (x == ("__debug__" : Str)) = false := by decide) : PE X (.Name x pos) (tE (sg X) E (eC (.ty n))) :=
  (pe_bltn (v := .ty n) hg hm hv rfl hn hd).weak (const_weak fun _ => .ty n)

/-! ### methods of lists -/
/-- o.m(e, ..): of the thing and the arguments -/
@[simp] def eM (k : D → List D → Mem → Res D) (f : Fe) (g : Fa) : Fe := fun env M => (f env M).bind fun x M1 => if (asL M1 x).isSome = true then (g env M1).bind fun l M2 => k x l M2 else .bad
def Mlo (X : Cx) (E : XK) (r : V → List V → Hp → VK → Prop) (k : D → List D → Mem → Res D) : Prop := ∀ (w : Wd) (x : D) (l : List D) (v : V) (vs : List V) (Q : VK), w.Ok (sg X) → Is X.K w x v → IsAll X.K w l vs → PostG (sg X) (Is X.K) w E (k x l w.M) Q → r v vs w.H Q
theorem tyV_list (ok : w.Ok (sg X)) {d : D} {v : V} (h : Is X.K w d v) (e : (asL w.M d).isSome = true) : tyV X.K "list" v w.H := by
  obtain ⟨l, e⟩ := Option.isSome_iff_exists.mp e
  obtain ⟨a, vs, rfl, h1, h2⟩ := asL_is ok h e
  exact .inl ⟨rfl, vs, .inl (.inl h1)⟩
theorem em_weak {r : V → List V → Hp → VK → Prop} {k : D → List D → Mem → Res D} (o : Mlo X E r k) : ∀ σ H Q, tE (sg X) E (eM k fe ga) σ H Q → tBM X.K "list" r (tE (sg X) E fe) (tA (sg X) E ga) σ H Q := fun σ H Q h => by
  obtain ⟨w, env, rfl, ok, en, h⟩ := h
  refine ⟨w, env, rfl, ok, en, (PostG.bind (I := Is X.K) h).imp ?_⟩
  rintro b _ ⟨w1, x, rfl, ok1, f1, _, i1, h1⟩
  split at h1
  · rename_i hs
    refine ⟨tyV_list ok1 i1 hs, w1, env, rfl, ok1, en.mono ok f1.toFut0, (PostG.bind (I := IsAll X.K) h1).imp ?_⟩
    rintro bs _ ⟨w2, l, rfl, ok2, f2, _, i2, h2⟩
    exact o w2 x l b bs Q ok2 (i1.mono ok1 f2.toFut0) i2 h2
  · exact h1.elim
theorem em_weak0 {r : V → List V → Hp → VK → Prop} {k : D → List D → Mem → Res D} (o : Mlo X E r k) : ∀ σ H Q, tE (sg X) E (eM k fe aN) σ H Q → tBM0 X.K "list" r (tE (sg X) E fe) σ H Q := fun σ H Q h => by
  obtain ⟨w, env, rfl, ok, en, h⟩ := h
  refine ⟨w, env, rfl, ok, en, (PostG.bind (I := Is X.K) h).imp ?_⟩
  rintro b _ ⟨w1, x, rfl, ok1, f1, _, i1, h1⟩
  split at h1
  · rename_i hs
    exact ⟨tyV_list ok1 i1 hs, o w1 x [] b [] Q ok1 i1 .nil h1⟩
  · exact h1.elim
@[simp] def kAppend (x : D) (l : List D) (M : Mem) : Res D := match x, l with
  | .adr n, [y] => (match M[n]? with
    | some (some (.lst xs)) => if xs.length < sizeLine then .ok .non (M.set n (some (.lst (xs ++ [y])))) else .bad
    | _ => .bad)
  | _, _ => .bad
theorem mlo_append : Mlo X E rAppend kAppend := fun w x l v vs Q ok ix il h => by
  unfold kAppend at h
  split at h
  · rename_i n y
    split at h
    · rename_i xs hm
      split at h
      · rename_i hl
        cases ix with
        | adr hn =>
          cases il with
          | @cons _ vy _ _ i r =>
            cases r
            obtain ⟨us, h1, h2⟩ := (ok.obj _ _ hm).1
            refine ⟨_, us, _, rfl, rfl, h1, by rw [h2.length]; exact hl, ?_⟩
            have fu := ok.put_fut (o' := .lst (xs ++ [y])) (ho := .lst (us ++ [vy])) hm
            have ok2 := ok.put (o' := .lst (xs ++ [y])) (ho := .lst (us ++ [vy])) hm ⟨_, upd_same, (h2.append (.cons i .nil)).mono ok fu.toFut0⟩
            exact h _ .non ok2 fu rfl .non
      · exact h.elim
    · exact h.elim
  · exact h.elim
theorem de_append {apos cpos : Pos} {o : Expr} (ho : PE X o (tE (sg X) E fe)) (ha : PA X (e :: es) (tA (sg X) E ga))
    (hbase : attributeBase o "append" X.env (eval o X.env) = eval o X.env := by rfl)
    (hfew : ((backTo cpos (starEach (e :: es) X.env)).all (fun x => !x.1) && (backToKw cpos (keywordEach [] X.env)).all (fun x => x.1.isSome)
      && decide ((e :: es).length + ([] : List Keyword).length + (if ([] : List Keyword).isEmpty then 0 else 1) < 30)) = true := by rfl)
    (hline : (apos.endLine == cpos.line) = true := by rfl) (hs : starEach (e :: es) X.env = (false, eval e X.env) :: starEach es X.env := by rfl) (hplain : (backTo cpos (starEach es X.env)).any (·.1) = false := by rfl) :
    PE X (.Call (.Attribute o "append" apos) (e :: es) [] cpos) (tE (sg X) E (eM kAppend fe ga)) := (pe_bm F.plainAttrs_list F.slot_list_append F.type_list_append mt_append ho ha hbase hfew hline hs hplain).weak (em_weak mlo_append)
/-- xs[i] = v -/
@[simp] def kSetIx (x i v : D) (M : Mem) : Res Unit := match x, i with
  | .adr n, .int i => (match M[n]? with
    | some (some (.lst xs)) => (match ixN xs.length i with
      | some j => .ok () (M.set n (some (.lst (xs.set j v))))
      | none => .bad)
    | _ => .bad)
  | _, _ => .bad
/-- n * list -/
def kRep (x y : D) (M : Mem) : Res D := match y with
  | .int k => (match asL M x with
    | some l => if -(2 ^ 63) ≤ k ∧ k < 2 ^ 63 ∧ l.length * k.toNat ≤ sizeLine then .ok (.lst (List.replicate k.toNat l).flatten) M else .bad
    | none => .bad)
  | _ => .bad
theorem IsAll.rep {K : PySem.W.Frag} {l : List D} {vs : List V} (h : IsAll K w l vs) : ∀ n, IsAll K w (List.replicate n l).flatten (List.replicate n vs).flatten
  | 0 => .nil
  | n + 1 => by
    rw [List.replicate_succ, List.replicate_succ, List.flatten_cons, List.flatten_cons]
    exact h.append (IsAll.rep h n)
theorem o_rep : Op2 X E rRep kRep := fun w x y vx vy Q ok ix iy h => by
  unfold kRep at h
  split at h
  · split at h
    · rename_i l hl
      split at h
      · rename_i hc
        cases iy
        obtain ⟨p, us, rfl, h1, h2⟩ := asL_is ok ix hl
        exact ⟨p, _, us, rfl, rfl, h1, hc.1, hc.2.1, by rw [h2.length]; exact hc.2.2, post_lst ok h (h2.rep _)⟩
      · exact h.elim
    · exact h.elim
  · exact h.elim
theorem de_rep (ha : PE X a (tE (sg X) E fa)) (hb : PE X b (tE (sg X) E fb)) : PE X (.BinOp a .Mult b pos) (tE (sg X) E (e2 kRep fa fb)) := de_op op_rep o_rep ha hb
end
end Dl

set_option maxHeartbeats 1000000
/-! The data layer, part K: dicts whose keys are tuples of any depth. -/
namespace Dl
open PySem PySem.Spec PyProof.Rows L2

/-! ### keys -/
mutual
def nk : D → Option NestedKey
  | .non => some .none
  | .int i => some (.num i)
  | .str x => some (.text x)
  | .tup l => (nks l).map .tup
  | _ => none
def nks : List D → Option (List NestedKey)
  | [] => some []
  | d :: r => match nk d, nks r with
    | some x, some y => some (x :: y)
    | _, _ => none
end
mutual
/-- the value that a key is -/
def kD : NestedKey → D
  | .none => .non
  | .num i => .int i
  | .text x => .str x
  | .tup ks => .tup (kDs ks)
def kDs : List NestedKey → List D
  | [] => []
  | k :: r => kD k :: kDs r
end
section
variable {K : PySem.W.Frag} {w : Wd}
mutual
theorem nk_is : ∀ (d : D) (v : V) (k : NestedKey), Is K w d v → nk d = some k → KeyAt w.H k v
  | .non, _, _, h, e => by cases h; cases e; exact .none
  | .int i, _, _, h, e => by cases h; cases e; exact .num i
  | .str x, _, _, h, e => by cases h; cases e; exact .text x
  | .tup l, _, _, h, e => by
    cases h with
    | tup h1 h2 =>
      rw [nk] at e
      obtain ⟨ks, e1, rfl⟩ := Option.map_eq_some_iff.mp e
      exact .tup h1 (nks_is l _ _ h2 e1)
  | .bl _, _, _, _, e => by cases e
  | .lst _, _, _, _, e => by cases e
  | .adr _, _, _, _, e => by cases e
  | .fn _, _, _, _, e => by cases e
  | .ty _, _, _, _, e => by cases e
  | .scr _, _, _, _, e => by cases e
theorem nks_is : ∀ (l : List D) (vs : List V) (ks : List NestedKey), IsAll K w l vs → nks l = some ks → KeysAt w.H ks vs
  | [], _, _, h, e => by cases h; cases e; exact .nil
  | d :: r, _, _, h, e => by
    cases h with
    | cons h1 h2 =>
      rw [nks] at e
      split at e
      · rename_i x y e1 e2
        cases e
        exact .cons (nk_is d _ x h1 e1) (nks_is r _ y h2 e2)
      · cases e
end
mutual
theorem kD_is : ∀ {k : NestedKey} {v : V}, KeyAt w.H k v → Is K w (kD k) v
  | .none, _, .none => .non
  | .num _, _, .num i => .int i
  | .text _, _, .text x => .str x
  | .tup ks, _, .tup h1 h2 => .tup h1 (kDs_is h2)
theorem kDs_is : ∀ {ks : List NestedKey} {vs : List V}, KeysAt w.H ks vs → IsAll K w (kDs ks) vs
  | _, _, .nil => .nil
  | _, _, .cons h t => .cons (kD_is h) (kDs_is t)
end
end
section
variable {P : Program} {W : World} {H : Hp} {h : Heap}
mutual
theorem key_nested (ok : HOk P W H h) : ∀ {k : NestedKey} {v : V} {u : Value}, KeyAt H k v → RelV v u → NestedIs h k u
  | _, _, u, .none, r => by cases (show u = Value.none from r); exact .none
  | _, _, u, .num i, r => by obtain ⟨t, rfl⟩ := (show ∃ t, u = Value.int i t from r); exact .int i t
  | _, _, u, .text x, r => by obtain ⟨t, rfl⟩ := (show ∃ t, u = Value.str x t from r); exact .text x t
  | _, _, u, .tup (a := a) h1 h2, r => by
    cases (show u = Value.ref a from r)
    obtain ⟨_, its, rv, o, g1, g2, n, g3⟩ := (show ObjOk P W H h a (.tup _) from ok a _ h1)
    exact .tup g1 g2 g3 (by simpa using keys_nested ok h2 rv)
theorem keys_nested (ok : HOk P W H h) : ∀ {ks : List NestedKey} {vs : List V} {us : List Value}, KeysAt H ks vs → Vals vs us → NestedAll h ks us
  | _, _, _, .nil, r => by cases r; exact .nil
  | _, _, _, .cons h t, r => by
    cases r with
    | cons r1 r2 => exact .cons (key_nested ok h r1) (keys_nested ok t r2)
end
end

/-! ### entries -/
def valD (l : List (NestedKey × D)) (k : NestedKey) : Option D := (l.find? fun p => decide (p.1 = k)).map (·.2)
def setD (l : List (NestedKey × D)) (k : NestedKey) (d : D) : List (NestedKey × D) := if (valD l k).isSome = true then l.map (fun p => if p.1 = k then (p.1, d) else p) else l ++ [(k, d)]
def ValIs (K : PySem.W.Frag) (w : Wd) : Option D → Option (Addr × Value) → Prop
  | some d, some p => ∃ v, RelV v p.2 ∧ Is K w d v
  | none, none => True
  | _, _ => False
section
variable {K : PySem.W.Frag} {w : Wd}
theorem dic_val {l : List (NestedKey × D)} {xs : RawE} (h : DicIs K w l xs) (k : NestedKey) : ValIs K w (valD l k) (atKey xs k) := by
  induction h with
  | nil => exact True.intro
  | @cons k' d b u v l xs h1 h2 h3 h4 _ ih =>
    unfold valD atKey
    rw [List.find?_cons, List.find?_cons]
    by_cases e : k' = k
    · simp only [e, decide_true, Option.map_some]
      exact ⟨v, h3, h4⟩
    · simp only [e, decide_false]
      exact ih
theorem val_some {o : Option D} {q : Option (Addr × Value)} (h : ValIs K w o q) : o.isSome = q.isSome := by
  cases o <;> cases q <;> first | rfl | exact h.elim
theorem dic_keys {l : List (NestedKey × D)} {xs : RawE} (h : DicIs K w l xs) : xs.map (·.1) = l.map (·.1) := by
  induction h with
  | nil => rfl
  | cons _ _ _ _ _ ih => rw [List.map_cons, List.map_cons, ih]
theorem dic_len {l : List (NestedKey × D)} {xs : RawE} (h : DicIs K w l xs) : xs.length = l.length := by
  have e := congrArg List.length (dic_keys h)
  simpa using e
theorem dic_app {l m : List (NestedKey × D)} {xs ys : RawE} (h : DicIs K w l xs) (g : DicIs K w m ys) : DicIs K w (l ++ m) (xs ++ ys) := by
  induction h with
  | nil => exact g
  | cons h1 h2 h3 h4 _ ih => exact .cons h1 h2 h3 h4 ih
theorem dic_map {l : List (NestedKey × D)} {xs : RawE} (h : DicIs K w l xs) {k : NestedKey} {d : D} {v : V} {u : Value} (hr : RelV v u) (hi : Is K w d v) : DicIs K w (l.map (fun p => if p.1 = k then (p.1, d) else p)) (xs.map (putAt k u)) := by
  induction h with
  | nil => exact .nil
  | @cons k' d' b' u' v' l xs h1 h2 h3 h4 _ ih =>
    rw [List.map_cons, List.map_cons]
    by_cases e : k' = k
    · have e1 : putAt k u (k', b', u') = (k', b', u) := if_pos e
      rw [e1, if_pos e]
      exact .cons h1 h2 hr hi ih
    · have e1 : putAt k u (k', b', u') = (k', b', u') := if_neg e
      rw [e1, if_neg e]
      exact .cons h1 h2 h3 h4 ih
theorem dic_put {l : List (NestedKey × D)} {xs : RawE} (h : DicIs K w l xs) {k : NestedKey} {b : Addr} {d : D} {v : V} {u : Value} (hk : KeyAt w.H k (.ref b)) (hd : k.depth ≤ 8) (hr : RelV v u) (hi : Is K w d v) : DicIs K w (setD l k d) (storedH xs k b u) := by
  unfold setD storedH
  rw [val_some (dic_val h k)]
  split
  · exact dic_map h hr hi
  · exact dic_app h (.cons hk hd hr hi .nil)
theorem setD_keys (l : List (NestedKey × D)) (k : NestedKey) (d : D) : (setD l k d).map (·.1) = if (valD l k).isSome = true then l.map (·.1) else l.map (·.1) ++ [k] := by
  unfold setD
  split
  · rw [List.map_map]
    refine List.map_congr_left fun p _ => ?_
    by_cases e : p.1 = k <;> simp [e]
  · simp
theorem valD_none {l : List (NestedKey × D)} {k : NestedKey} (h : ¬ (valD l k).isSome = true) : k ∉ l.map (·.1) := fun hm => by
  obtain ⟨p, hp, e⟩ := List.mem_map.mp hm
  apply h
  unfold valD
  rw [Option.isSome_map]
  rw [List.find?_isSome]
  exact ⟨p, hp, by simpa using e⟩
theorem setD_nodup {l : List (NestedKey × D)} {k : NestedKey} {d : D} (h : (l.map (·.1)).Nodup) : ((setD l k d).map (·.1)).Nodup := by
  rw [setD_keys]
  split
  · exact h
  · rename_i hn
    rw [List.nodup_append]
    exact ⟨h, by simp, fun a ha b hb e => by rw [List.mem_singleton] at hb; subst hb; subst e; exact valD_none hn ha⟩
theorem setD_len (l : List (NestedKey × D)) (k : NestedKey) (d : D) : (setD l k d).length ≤ l.length + 1 := by
  unfold setD
  split
  · simp
  · simp
end

/-! ### what stands there -/
/-- a dict with these entries, on the hand layer's heap -/
structure DAt (G : Sg) (H : Hp) (a : Addr) (xs : RawE) : Prop where
  at_ : H a = some (dicO G.P G.W a xs) ∨ ∃ o, H a = some (.frz o (dicO G.P G.W a xs))
  sys : (a == sysModules) = false
  nd : (xs.map (·.1)).Nodup
  len : xs.length ≤ sizeLine
  keys : ∀ y ∈ xs, KeyAt H y.1 (.ref y.2.1) ∧ y.1.depth ≤ 8
@[simp] def dicAt (M : Mem) (d : D) : Option (List (NestedKey × D)) := match d with
  | .adr n => (match M[n]? with
    | some (some (.dic l)) => some l
    | some (some (.lck l)) => some l
    | _ => none)
  | _ => none
section
variable {X : Cx} {E : XK} {w : Wd}
theorem dic_all {K : PySem.W.Frag} {l : List (NestedKey × D)} {xs : RawE} (h : DicIs K w l xs) : ∀ y ∈ xs, KeyAt w.H y.1 (.ref y.2.1) ∧ y.1.depth ≤ 8 := by
  induction h with
  | nil => intro y hy; cases hy
  | cons h1 h2 _ _ _ ih =>
    intro y hy
    rcases List.mem_cons.mp hy with e | hy
    · subst e; exact ⟨h1, h2⟩
    · exact ih y hy
theorem dicAt_is (ok : w.Ok (sg X)) {d : D} {v : V} {l : List (NestedKey × D)} (h : Is X.K w d v) (e : dicAt w.M d = some l) : ∃ a xs, v = .ref a ∧ DAt (sg X) w.H a xs ∧ DicIs X.K w l xs := by
  unfold dicAt at e
  split at e
  · cases h with
    | adr hn =>
      split at e
      · rename_i hm
        cases e
        obtain ⟨xs, h1, h2, h3, h4, h5⟩ := (ok.obj _ _ hm).1
        exact ⟨_, xs, rfl, ⟨.inl h1, h2, by rw [dic_keys h5]; exact h3, by rw [dic_len h5]; exact h4, dic_all h5⟩, h5⟩
      · rename_i hm
        cases e
        obtain ⟨o, xs, h1, h2, h3, h4, h5⟩ := (ok.obj _ _ hm).1
        exact ⟨_, xs, rfl, ⟨.inr ⟨o, h1⟩, h2, by rw [dic_keys h5]; exact h3, by rw [dic_len h5]; exact h4, dic_all h5⟩, h5⟩
      · cases e
  · cases e
variable {pins : List (Addr × Obj)} {σ : L2.St} {H : Hp} {s : Shared} {a q : Addr} {xs : RawE} {k : NestedKey}
theorem DAt.raw (d : DAt (sg X) H a xs) (I : Inv X pins σ H s) : RawT X.prog X.w a xs s.heap := by
  rcases d.at_ with e | ⟨o, e⟩
  · exact (I.hok a _ e).1
  · exact (I.hok a _ e).2.1
theorem DAt.ofH (d : DAt (sg X) H a xs) (I : Inv X pins σ H s) : s.heap.DictOfH (nestedKind X.prog X.w) a xs := by
  obtain ⟨o, es, ep, h1, h2, h3, h4⟩ := d.raw I
  exact ⟨o, es, ep, h1, h2, h3, h4, fun y hy => ⟨key_nested I.hok (d.keys y hy).1 rfl, (d.keys y hy).2⟩, d.nd⟩
theorem key_of (I : Inv X pins σ H s) (hk : KeyAt H k (.ref q)) (hd : k.depth ≤ 8) : (nestedKind X.prog X.w).is s.heap k q := ⟨key_nested I.hok hk rfl, hd⟩
theorem room_of (hu : X.A.units + 65 < cLine) : (nestedKind X.prog X.w).room X.A.in1 := by show X.A.units + 1 + 8 < cLine; omega

/-- k in d, k not in d, d[k] -/
def rInN (G : Sg) (g : Bool → Bool) : R2 := fun x y H Q => ∃ q a xs k, x = .ref q ∧ y = .ref a ∧ DAt G H a xs ∧ KeyAt H k (.ref q) ∧ k.depth ≤ 8 ∧ Q (.bl (g (atKey xs k).isSome)) H
theorem op_inN (hu : X.A.units + 65 < cLine) : OpR X (compareOp .In) (rInN (sg X) id) := by
  intro pins s σ H x y v u Q I rx ry h
  obtain ⟨q, a, xs, k, rfl, rfl, d, hk, hd, q⟩ := h
  cases rx; cases ry
  exact wpAny_in_heap (room_of hu) (key_of I hk hd) d.sys (d.ofH I) ⟨.bl _, H, I.tok _, rfl, q⟩
theorem op_notInN (hu : X.A.units + 65 < cLine) : OpR X (compareOp .NotIn) (rInN (sg X) (!·)) := by
  intro pins s σ H x y v u Q I rx ry h
  obtain ⟨q, a, xs, k, rfl, rfl, d, hk, hd, q⟩ := h
  cases rx; cases ry
  exact wpAny_notIn_heap (room_of hu) (key_of I hk hd) d.sys (d.ofH I) ⟨.bl _, H, I.tok _, rfl, q⟩
def kInN (g : Bool → Bool) (x y : D) (M : Mem) : Res D := match nk x, dicAt M y with
  | some (.tup ks), some l => if (NestedKey.tup ks).depth ≤ 8 then .ok (.bl (g (valD l (.tup ks)).isSome)) M else .bad
  | _, _ => .bad
theorem KeyAt.ref_of {ks : List NestedKey} {v : V} (h : KeyAt H (.tup ks) v) : ∃ b, v = .ref b := by cases h; exact ⟨_, rfl⟩
theorem o_inN (g : Bool → Bool) : Op2 X E (rInN (sg X) g) (kInN g) := fun w x y vx vy Q ok ix iy h => by
  unfold kInN at h
  split at h
  · rename_i ks l e1 e2
    split at h
    · rename_i hd
      have hk := nk_is x vx _ ix e1
      obtain ⟨b, rfl⟩ := hk.ref_of
      obtain ⟨a, xs, rfl, d, dic⟩ := dicAt_is ok iy e2
      refine ⟨b, a, xs, _, rfl, rfl, d, hk, hd, ?_⟩
      rw [← val_some (dic_val dic _)]
      exact PostG.now h ok (.bl _)
    · exact h.elim
  · exact h.elim
/-- x in a list of data -/
def kInL (g : Bool → Bool) (x y : D) (M : Mem) : Res D := match py M x, py M y with
  | some d, some (.list ds) => if SeqAt.shaped d && SeqAt.shaped (.list ds) then .ok (.bl (g (ds.any fun z => PyData.eqv z d))) M else .bad
  | _, _ => .bad
theorem o_inL : Op2 X E (rInD X.K) (kInL id) := fun w x y vx vy Q ok ix iy h => by
  unfold kInL at h
  split at h
  · rename_i d ds e1 e2
    split at h
    · rename_i hs
      rw [Bool.and_eq_true] at hs
      exact ⟨d, ds, py_dp ok x vx d ix e1, py_dp ok y vy _ iy e2, hs.1, hs.2, PostG.now h ok (.bl _)⟩
    · exact h.elim
  · exact h.elim
theorem o_notInL : Op2 X E (rNotInD X.K) (kInL (!·)) := fun w x y vx vy Q ok ix iy h => by
  unfold kInL at h
  split at h
  · rename_i d ds e1 e2
    split at h
    · rename_i hs
      rw [Bool.and_eq_true] at hs
      exact ⟨d, ds, py_dp ok x vx d ix e1, py_dp ok y vy _ iy e2, hs.1, hs.2, PostG.now h ok (.bl _)⟩
    · exact h.elim
  · exact h.elim
end
end Dl

set_option maxHeartbeats 1000000
/-! The data layer, part L: subscripts, stores, displays of dicts; the walk of the keys. -/
namespace Dl
open PySem PySem.Spec PyProof.Rows L2
section
variable {X : Cx} {E : XK} {w : Wd} {a b e : Expr} {fa fb fe : Fe} {pos : Pos} {pins : List (Addr × Obj)} {σ : L2.St} {H : Hp} {s : Shared}
/-- d[k] of a list, a tuple, a dict -/
def rIxN (G : Sg) : R2 := fun x y H Q => ∃ a q xs k p v, x = .ref a ∧ y = .ref q ∧ DAt G H a xs ∧ KeyAt H k (.ref q) ∧ k.depth ≤ 8 ∧ atKey xs k = some p ∧ RelV v p.2 ∧ Q v H
theorem dat_typeIs {a : Addr} {xs : RawE} (d : DAt (sg X) H a xs) (I : Inv X pins σ H s) : s.TypeIs (.ref a) "dict" := (d.ofH I).typeIs
theorem dat_noDict {a : Addr} {xs : RawE} (d : DAt (sg X) H a xs) (I : Inv X pins σ H s) : ∀ b, Value.ref a = .ref b → ∃ ob, s.heap.get? b = some ob ∧ ob.dict = none := fun b q => by
  cases q
  obtain ⟨ob, _, _, h1, h2, _⟩ := d.raw I
  exact ⟨ob, h1, h2.2.1⟩
def tIxN (G : Sg) (td ty : TE) : TE := fun σ H Q => td σ H fun x H1 => ty σ H1 fun y H2 => rIxN G x y H2 Q
theorem pe_ixN (hu : X.A.units + 65 < cLine) (ho : PE X a ta) (hi : PE X b tb) (hs : NoSl b) : PE X (.Subscript a b pos) (tIxN (sg X) ta tb) := by
  refine ⟨fun pins s σ H Q I h => ?_⟩
  refine subD_of PySem.F.slot_dict_getitem.lookup hs (thn (ho.run pins s σ H _ I h) fun u s1 ⟨x, H1, I1, rx, q1⟩ => thn (hi.run pins s1 σ H1 _ I1 q1) fun iv s2 ⟨y, H2, I2, ry, a, q, xs, k, p, v, ex, ey, d, hk, hd, hp, rv, q2⟩ => ?_)
  subst ex ey
  cases rx; cases ry
  exact ⟨dat_typeIs d I2, wpAny_getItem_heap (room_of hu) (key_of I2 hk hd) (d.ofH I2) hp ⟨v, H2, I2.tok _, rv, q2⟩⟩
def kIxN (x y : D) (M : Mem) : Res D := match nk y, dicAt M x with
  | some (.tup ks), some l => if (NestedKey.tup ks).depth ≤ 8 then (match valD l (.tup ks) with
    | some d => .ok d M
    | none => .bad) else .bad
  | _, _ => .bad
theorem o_ixN : Op2 X E (rIxN (sg X)) kIxN := fun w x y vx vy Q ok ix iy h => by
  unfold kIxN at h
  split at h
  · rename_i ks l e1 e2
    split at h
    · rename_i hd
      split at h
      · rename_i d hv
        have hk := nk_is y vy _ iy e1
        obtain ⟨b, rfl⟩ := hk.ref_of
        obtain ⟨a, xs, rfl, da, dic⟩ := dicAt_is ok ix e2
        have z := dic_val dic (.tup ks)
        rw [hv] at z
        cases q : atKey xs (.tup ks) with
        | none => rw [q] at z; exact z.elim
        | some p =>
          rw [q] at z
          obtain ⟨v, rv, iv⟩ := z
          exact ⟨a, b, xs, _, p, v, rfl, rfl, da, hk, hd, q, rv, PostG.now h ok iv⟩
      · exact h.elim
    · exact h.elim
  · exact h.elim
theorem de_ixN (hu : X.A.units + 65 < cLine) (ha : PE X a (tE (sg X) E fa)) (hb : PE X b (tE (sg X) E fb)) (hs : NoSl b := by intro _ _; rfl) : PE X (.Subscript a b pos) (tE (sg X) E (e2 kIxN fa fb)) := (pe_ixN hu ha hb hs).weak (e2_weak o_ixN)

/-! ### stores by subscripts -/
def Set2 (X : Cx) (E : XK) (t : TSet) (k : D → D → D → Mem → Res Unit) : Prop := ∀ (w : Wd) (o i x : D) (vo vi vx : V) (Q : Hp → Prop), w.Ok (sg X) → Is X.K w o vo → Is X.K w i vi → Is X.K w x vx → PostG (sg X) (fun _ _ (_ : Unit) => True) w E (k o i x w.M) (fun _ H => Q H) → t vo vi vx w.H Q
theorem set2_list : Set2 X E rSetL kSetIx := fun w o i x vo vi vx Q ok io ii ix h => by
  unfold kSetIx at h
  split at h
  · rename_i n i
    split at h
    · rename_i xs hm
      split at h
      · rename_i j hj
        cases io; cases ii
        obtain ⟨us, h1, h2⟩ := (ok.obj _ _ hm).1
        refine ⟨_, us, _, j, rfl, rfl, h1, by rw [h2.length]; exact hj, ?_⟩
        have fu := ok.put_fut (o' := .lst (xs.set j x)) (ho := .lst (us.set j vx)) hm
        have ok2 := ok.put (o' := .lst (xs.set j x)) (ho := .lst (us.set j vx)) hm ⟨_, upd_same, ((h2.mono ok fu.toFut0).set (ix.mono ok fu.toFut0) j)⟩
        exact h _ () ok2 fu rfl True.intro
      · exact h.elim
    · exact h.elim
  · exact h.elim
def rSetN (G : Sg) : TSet := fun o i v H Q => ∃ a q xs k, o = .ref a ∧ i = .ref q ∧ H a = some (dicO G.P G.W a xs) ∧ DAt G H a xs ∧ KeyAt H k (.ref q) ∧ k.depth ≤ 8 ∧ xs.length < sizeLine ∧ ∀ u, RelV v u → Q (upd H a (dicO G.P G.W a (storedH xs k q u)))
theorem storedH_len (xs : RawE) (k : NestedKey) (a : Addr) (v : Value) : (storedH xs k a v).length ≤ xs.length + 1 := by
  unfold storedH
  split <;> simp
theorem dic_ext {P : Program} {W : World} {a : Addr} {xs : RawE} {h : Heap} {H : Hp} (r : RawT P W a xs h) : ObjOk P W H h a (dicO P W a xs) := by
  obtain ⟨o, es, ep, h1, h2⟩ := id r
  exact ⟨r, ⟨o, h1⟩, fun g1 g2 ⟨o, es, ep, k1, k2⟩ k => ⟨o, es, ep, k o k1, k2⟩⟩
theorem set_dicN (hu : X.A.units + 65 < cLine) : PSet X (rSetN (sg X)) := by
  intro pins s σ H o i v ov iv u Q I ro ri rv h
  obtain ⟨a, q, xs, k, rfl, rfl, ha, d, hk, hd, hl, qq⟩ := h
  cases ro; cases ri
  refine wpAny_setItem_heap (hsz := d.len) (room_of hu) (key_of I hk hd) (d.ofH I) fun h' dd' hs => ?_
  obtain ⟨o, es, ep, h1, h2, h3, h4, _⟩ := dd'
  exact ⟨_, d_write I (by rw [ha]; exact True.intro) hs ⟨o, h1⟩ (dic_ext ⟨o, es, ep, h1, h2, h3, h4⟩), qq u rv⟩
def kSetN (o i x : D) (M : Mem) : Res Unit := match o, nk i with
  | .adr n, some (.tup ks) => (match M[n]? with
    | some (some (.dic l)) => if (NestedKey.tup ks).depth ≤ 8 ∧ l.length < sizeLine then .ok () (M.set n (some (.dic (setD l (.tup ks) x)))) else .bad
    | _ => .bad)
  | _, _ => .bad
theorem set2_dicN : Set2 X E (rSetN (sg X)) kSetN := fun w o i x vo vi vx Q ok io ii ix h => by
  unfold kSetN at h
  split at h
  · rename_i n ks e1
    split at h
    · rename_i l hm
      split at h
      · rename_i hc
        cases io
        have hk := nk_is i vi _ ii e1
        obtain ⟨b, rfl⟩ := hk.ref_of
        obtain ⟨xs, h1, h2, h3, h4, h5⟩ := (ok.obj _ _ hm).1
        refine ⟨_, b, xs, _, rfl, rfl, h1, ⟨.inl h1, h2, by rw [dic_keys h5]; exact h3, by rw [dic_len h5]; exact h4, dic_all h5⟩, hk, hc.1, by rw [dic_len h5]; exact hc.2, fun u ru => ?_⟩
        have fu := ok.put_fut (o' := .dic (setD l (.tup ks) x)) (ho := dicO X.prog X.w (w.rhW n) (storedH xs (.tup ks) b u)) hm
        have ok2 := ok.put (o' := .dic (setD l (.tup ks) x)) (ho := dicO X.prog X.w (w.rhW n) (storedH xs (.tup ks) b u)) hm
          ⟨_, upd_same, h2, setD_nodup h3, Nat.le_trans (setD_len l _ x) hc.2, dic_put (h5.mono ok fu.toFut0) (hk.mono ok fu.toFut0) hc.1 ru (ix.mono ok fu.toFut0)⟩
        exact h _ () ok2 fu rfl True.intro
      · exact h.elim
    · exact h.elim
  · exact h.elim
/-- a store, as a step of slots and memory -/
abbrev Ftg := D → Env → Mem → Res Env
def tGt (G : Sg) (E : XK) (f : Ftg) : TG := fun v σ H Q => ∃ w env d, w.H = H ∧ w.Ok G ∧ EnvIs G.K w env σ ∧ Is G.K w d v ∧ PostG G (EnvIs G.K) w E (f d env w.M) Q
abbrev Ftgs := List D → Env → Mem → Res Env
def tGts (G : Sg) (E : XK) (f : Ftgs) : TGs := fun vs σ H Q => ∃ w env l, w.H = H ∧ w.Ok G ∧ EnvIs G.K w env σ ∧ IsAll G.K w l vs ∧ PostG G (EnvIs G.K) w E (f l env w.M) Q
@[simp] def gNm (i : Nat) : Ftg := fun d env M => .ok (env.set i (some d)) M
theorem _root_.L2.PGs.weak {ts : List Expr} {t t' : TGs} (h : PGs X ts t) (k : ∀ v σ H Q, t' v σ H Q → t v σ H Q) : PGs X ts t' := ⟨fun pins s σ H v u Q I r q => h.run pins s σ H v u Q I r (k v σ H Q q)⟩
theorem dg_name (i : Nat) {x : Str} (hN : X.N.Nodup) (hi : X.N[i]? = some x := by rfl) (hx : Loc X.env.scope x := by first | exact .inl rfl | exact .inr rfl) (hf : X.fn x = true ∨ X.env.scope.names.lookup x = some .local := by first | exact .inl rfl | exact .inr rfl | assumption) : PG X (.Name x pos) (tGt (sg X) E (gNm i)) := (pg_name hN hi hx hf).weak fun v σ H Q h => by
  obtain ⟨w, env, d, rfl, ok, en, i1, h⟩ := h
  exact PostG.now h ok (en.set i1)
@[simp] def gSb (k : D → D → D → Mem → Res Unit) (fo fi : Fe) : Ftg := fun d env M => (fo env M).bind fun o M1 => (fi env M1).bind fun i M2 => (k o i d M2).bind fun _ M3 => .ok env M3
theorem dg_sub {t : TSet} {k : D → D → D → Mem → Res Unit} (ho : PE X a (tE (sg X) E fa)) (hi : PE X b (tE (sg X) E fb)) (hs : PSet X t) (o : Set2 X E t k)
    (ha : ∀ v, assign (.Subscript a b pos) X.env v = (do
      let ov ← holding [v] (eval a X.env)
      let iv ← holding [v, ov] (eval b X.env)
      standAt pos
      holding [v, ov, iv] (setItem ov iv v)
      release [v, ov, iv] []) := by intro _; rfl) : PG X (.Subscript a b pos) (tGt (sg X) E (gSb k fa fb)) := (pg_sub ho hi hs ha).weak fun v σ H Q h => by
  obtain ⟨w, env, d, rfl, ok, en, i0, h⟩ := h
  refine ⟨w, env, rfl, ok, en, (PostG.bind (I := Is X.K) h).imp ?_⟩
  rintro x _ ⟨w1, od, rfl, ok1, f1, _, i1, h1⟩
  refine ⟨w1, env, rfl, ok1, en.mono ok f1.toFut0, (PostG.bind (I := Is X.K) h1).imp ?_⟩
  rintro y _ ⟨w2, id, rfl, ok2, f2, _, i2, h2⟩
  have f02 := f1.trans ok1 f2
  refine o w2 od id d x y v _ ok2 (i1.mono ok1 f2.toFut0) i2 (i0.mono ok f02.toFut0) ((PostG.bind (I := fun _ _ _ => True) h2).imp ?_)
  rintro _ _ ⟨w3, _, rfl, ok3, f3, _, _, h3⟩
  exact PostG.now h3 ok3 (en.mono ok (f02.trans ok2 f3).toFut0)
@[simp] def gNil2 : Ftgs := fun l env M => match l with
  | [] => .ok env M
  | _ => .bad
@[simp] def gCons2 (f : Ftg) (g : Ftgs) : Ftgs := fun l env M => match l with
  | d :: r => (f d env M).bind fun env1 M1 => g r env1 M1
  | [] => .bad
theorem dgs_nil : PGs X [] (tGts (sg X) E gNil2) := pgs_nil.weak fun v σ H Q h => by
  obtain ⟨w, env, l, rfl, ok, en, i1, h⟩ := h
  cases i1 with
  | nil => exact ⟨rfl, PostG.now h ok en⟩
  | cons => exact h.elim
theorem dgs_cons {es : List Expr} {f : Ftg} {g : Ftgs} (h1 : PG X e (tGt (sg X) E f)) (h2 : PGs X es (tGts (sg X) E g))
    (hs : (assignEach (e :: es) X.env).map (·.2) = assign e X.env :: (assignEach es X.env).map (·.2) := by rfl) : PGs X (e :: es) (tGts (sg X) E (gCons2 f g)) := (pgs_cons h1 h2 hs).weak fun v σ H Q h => by
  obtain ⟨w, env, l, rfl, ok, en, i1, h⟩ := h
  cases i1 with
  | nil => exact h.elim
  | cons i r =>
    refine ⟨_, _, rfl, w, env, _, rfl, ok, en, i, (PostG.bind (I := EnvIs X.K) h).imp ?_⟩
    rintro σ1 _ ⟨w1, env1, rfl, ok1, f1, _, en1, h1⟩
    exact ⟨w1, env1, _, rfl, ok1, en1, r.mono ok f1.toFut0, h1⟩
@[simp] def gTp (n : Nat) (g : Ftgs) : Ftg := fun d env M => match d with
  | .tup l => if l.length = n then g l env M else .bad
  | _ => .bad
theorem dg_tup {es : List Expr} {k : Nat} {g : Ftgs} {n : Nat} (hc : X.calm = true) (h : PGs X es (tGts (sg X) E g))
    (hn : (assignEach es X.env).length = n := by rfl) (hst : (assignEach es X.env).findIdx? (·.1) = none := by rfl) : PG X (.Tuple es k pos) (tGt (sg X) E (gTp n g)) := (pg_tup hc h hn hst).weak fun v σ H Q h => by
  obtain ⟨w, env, d, rfl, ok, en, i1, h⟩ := h
  unfold gTp at h
  split at h
  · split at h
    · rename_i hl
      cases i1 with
      | tup h1 h2 => exact ⟨_, _, rfl, .inl (.inl h1), by rw [h2.length]; exact hl, w, env, _, rfl, ok, en, h2, h⟩
    · exact h.elim
  · exact h.elim
/-- target = value -/
@[simp] def fAsg (f : Fe) (g : Ftg) : Fs := fun env M => (f env M).bind fun d M1 => (g d env M1).bind fun env1 M2 => .ok (.nx env1) M2
theorem ds_asg {tg : Expr} {g : Ftg} (he : PE X e (tE (sg X) E fe)) (hg : PG X tg (tGt (sg X) E g)) (hs : swapsWithSole [tg] e pos.line X.env = pure false := by rfl) (hw : swappedStores [tg] e X.env = pure none := by rfl)
    (h1 : (assignEach [tg] X.env).map (·.2) = [assign tg X.env] := by rfl) : PS X (.Assign [tg] e pos) (tS (sg X) E (fAsg fe g)) := (ps_asg he hg hs hw h1).weak fun D σ H h => by
  obtain ⟨w, env, rfl, ok, en, h⟩ := h
  refine ⟨w, env, rfl, ok, en, (PostG.bind (I := Is X.K) h).imp ?_⟩
  rintro v _ ⟨w1, d, rfl, ok1, f1, _, i1, h1⟩
  refine ⟨w1, env, d, rfl, ok1, en.mono ok f1.toFut0, i1, (PostG.bind (I := EnvIs X.K) h1).imp ?_⟩
  rintro σ1 _ ⟨w2, env2, rfl, ok2, f2, _, en2, h2⟩
  exact PostG.now (Q := dQ D) (b := FlV.nx σ1) h2 ok2 en2
end
end Dl

set_option maxHeartbeats 1000000
/-! The data layer, part M: displays of dicts, get, sorted, the walk of the keys; repr. -/
namespace Dl
open PySem PySem.Spec PyProof.Rows L2
section
variable {X : Cx} {E : XK} {w : Wd} {a b e k v : Expr} {fa fb fe fk fv : Fe} {ga : Fa} {pos : Pos} {pins : List (Addr × Obj)} {σ : L2.St} {H : Hp} {s : Shared}
theorem raw_empty {P : Program} {W : World} (h : Heap) : RawT P W h.objs.size [] (h.push { cls := .type "dict", data := .dict #[] }) := ⟨_, #[], 0, Heap.get?_push_size _ rfl, ⟨rfl, rfl, rfl⟩, rfl, rfl⟩
theorem Inv.newDic (I : Inv X pins σ H s) : Inv X pins σ (upd H s.heap.objs.size (dicO X.prog X.w s.heap.objs.size [])) { s with heap := s.heap.push { cls := .type "dict", data := .dict #[] } } :=
  I.laid (a := s.heap.objs.size) (t' := s.toks) (fun _ _ q => Heap.get?_push_of_some _ q) (Nat.le_refl _) (dic_ext (raw_empty _))
theorem Inv.sysN (I : Inv X pins σ H s) : (s.heap.objs.size == sysModules) = false := beq_eq_false_iff_ne.mpr (Ne.symm (Nat.ne_of_lt I.big))
def tNewN (G : Sg) : TE := fun _ H Q => ∀ p, H p = none → (p == sysModules) = false → Q (.ref p) (upd H p (dicO G.P G.W p []))
theorem pe_newN : PE X (.Dict [] [] pos) (tNewN (sg X)) := ⟨fun pins s σ H Q I h =>
  wpAny_Dict_empty ⟨.ref s.heap.objs.size, _, Inv.newDic I, rfl, h _ (I.hok.fresh (Nat.le_refl _)) (Inv.sysN I)⟩⟩
/-- a new dict comes into the memory -/
theorem post_dic {G : Sg} {w0 w : Wd} {Q : VK} {l : List (NestedKey × D)} {xs : RawE} {p : Addr} (ok : w.Ok G) (f0 : Fut w0 w) (h0 : w0.H p = none) (ap : Apart w p (dicO G.P G.W p xs)) (hs : (p == sysModules) = false)
    (hn : (l.map (·.1)).Nodup) (hl : l.length ≤ sizeLine) (d : DicIs G.K w l xs) (h : PostG G (Is G.K) w0 E (.ok (.adr w.M.length) (w.M ++ [some (.dic l)])) Q) : Q (.ref p) w.H := by
  obtain ⟨f2, ok2, i2⟩ := ok.alloc (o := .dic l) ap.out ap.noF (by rw [ap.at_]; exact fun z => nomatch z) f0 h0 ⟨xs, ap.at_, hs, hn, hl, d⟩
  have z := h _ (.ref p) ok2 f2 rfl i2
  exact z
@[simp] def eD0 : Fe := fun _ M => .ok (.adr M.length) (M ++ [some (.dic [])])
theorem de_newN : PE X (.Dict [] [] pos) (tE (sg X) E eD0) := pe_newN.weak fun σ H Q h p hp hs => by
  obtain ⟨w, env, rfl, ok, en, h⟩ := h
  obtain ⟨f, ok1⟩ := ok.add hp (dicO X.prog X.w p [])
  exact post_dic (w := ⟨w.rhW, w.F, w.M, upd w.H p (dicO X.prog X.w p [])⟩) ok1 f hp ⟨upd_same, fun _ z => (nomatch z), fun z => ok.frz p z hp, fun m hm => ok.ne_fresh hp hm⟩ hs (by simp) (Nat.zero_le _) .nil h
/-- {k: v} -/
def tDisp1 (G : Sg) (tk tv : TE) : TE := fun σ H Q => ∀ p, H p = none → (p == sysModules) = false → tk σ (upd H p (dicO G.P G.W p [])) fun x H1 => tv σ H1 fun y H2 => H2 p = some (dicO G.P G.W p []) ∧
  ∃ q k, x = .ref q ∧ KeyAt H2 k (.ref q) ∧ k.depth ≤ 8 ∧ ∀ u, RelV y u → Q (.ref p) (upd H2 p (dicO G.P G.W p [(k, q, u)]))
theorem pe_disp1 {tk tv : TE} (hu : X.A.units + 65 < cLine) (hk : PE X k tk) (hv : PE X v tv) : PE X (.Dict [some k] [v] pos) (tDisp1 (sg X) tk tv) := by
  refine ⟨fun pins s σ H Q I h => ?_⟩
  rw [arm_eval_Dict, zip_pairTrees [some k] [v] X.env pos rfl rfl, dictDisplay_pairs (pairTrees [some k] [v] X.env pos) (by simp [pairTrees]) (by simp [pairTrees])]
  refine wpAny_bind (wpAny_standAt (wpAny_bind (wpAny_subDictH (knd := nestedKind X.prog X.w) (Q := fun d s' => wpAny (model X.prog X.w) X.A (pure (Value.ref d)) (EP X pins σ Q) X.xe s') (by show X.A.units + 8 < cLine; omega) (by simp [pairTrees])
    (pairTrees_cons_walk (thn (hk.run pins _ σ _ _ (Inv.newDic I) (h _ (I.hok.fresh (Nat.le_refl _)) (Inv.sysN I))) fun u s1 ⟨x, H1, I1, rx, q1⟩ => thn (hv.run pins s1 σ H1 _ I1 q1) fun u2 s2 ⟨y, H2, I2, ry, hd, q, kk, ex, hkk, hdp, q2⟩ => pairTrees_nil_walk ?_)))))
  subst ex
  cases rx
  have emp : s2.heap.DictOfH (nestedKind X.prog X.w) s.heap.objs.size [] := by
    obtain ⟨o, es, ep, h1, h2, h3, h4⟩ := (I2.hok _ _ hd).1
    exact ⟨o, es, ep, h1, h2, h3, h4, fun _ hy => (nomatch hy), List.nodup_nil⟩
  refine ⟨[(kk, q, u2)], ⟨rfl, rfl, key_of I2 hkk hdp, True.intro⟩, emp, fun h' tk dd' hs => wpAny_pure ?_⟩
  obtain ⟨o, es, ep, h1, h2, h3, h4, _⟩ := dd'
  exact ⟨.ref s.heap.objs.size, _, d_write I2 (by rw [hd]; exact True.intro) hs ⟨o, h1⟩ (dic_ext ⟨o, es, ep, h1, h2, h3, h4⟩), rfl, q2 u2 ry⟩
@[simp] def eD1 (fk fv : Fe) : Fe := fun env M => (fk env M).bind fun x M1 => (fv env M1).bind fun y M2 => match nk x with
  | some (.tup ks) => if (NestedKey.tup ks).depth ≤ 8 then .ok (.adr M2.length) (M2 ++ [some (.dic [(.tup ks, y)])]) else .bad
  | _ => .bad
theorem de_disp1 (hu : X.A.units + 65 < cLine) (hk : PE X k (tE (sg X) E fk)) (hv : PE X v (tE (sg X) E fv)) : PE X (.Dict [some k] [v] pos) (tE (sg X) E (eD1 fk fv)) := (pe_disp1 hu hk hv).weak fun σ H Q h p hp hs => by
  obtain ⟨w, env, rfl, ok, en, h⟩ := h
  obtain ⟨f, ok1⟩ := ok.add hp (dicO X.prog X.w p [])
  have ap : Apart ⟨w.rhW, w.F, w.M, upd w.H p (dicO X.prog X.w p [])⟩ p (dicO X.prog X.w p []) := ⟨upd_same, fun _ z => (nomatch z), fun z => ok.frz p z hp, fun m hm => ok.ne_fresh hp hm⟩
  let W0 : Wd := ⟨w.rhW, w.F, w.M, upd w.H p (dicO X.prog X.w p [])⟩
  have hf : PostG (sg X) (Is X.K) W0 E (fk env W0.M) (fun x H1 => tE (sg X) E fv σ H1 fun y H2 => H2 p = some (dicO X.prog X.w p []) ∧
      ∃ q k, x = .ref q ∧ KeyAt H2 k (.ref q) ∧ k.depth ≤ 8 ∧ ∀ u, RelV y u → Q (.ref p) (upd H2 p (dicO X.prog X.w p [(k, q, u)]))) := by
    cases q1 : fk env w.M with
    | bad => unfold eD1 at h; rw [q1] at h; exact h.elim
    | exc C fs M' =>
      unfold eD1 at h; rw [q1] at h
      exact fun w' oa ok' f' e => h w' oa ok' (f.trans ok1 f') e
    | ok x M1 =>
      unfold eD1 at h
      rw [q1] at h
      simp only [bind_ok] at h
      intro w1 vx ok2 f1 e1 i1
      subst e1
      refine ⟨w1, env, rfl, ok2, (en.mono ok f.toFut0).mono ok1 f1.toFut0, ?_⟩
      cases q2 : fv env w1.M with
      | bad => rw [q2] at h; exact h.elim
      | exc C fs M' =>
        rw [q2] at h
        exact fun w' oa ok' f' e => h w' oa ok' ((f.trans ok1 f1).trans ok2 f') e
      | ok y M2 =>
        rw [q2] at h
        simp only [bind_ok] at h
        intro w2 vy ok3 f2 e2 i2
        subst e2
        have ap2 := (ap.fut f1).fut f2
        split at h
        · rename_i ks ek
          split at h
          · rename_i hd
            have hk := nk_is x vx _ (i1.mono ok2 f2.toFut0) ek
            obtain ⟨b, rfl⟩ := hk.ref_of
            refine ⟨ap2.at_, b, _, rfl, hk, hd, fun u ru => ?_⟩
            obtain ⟨k5, ok5, ap5⟩ := ok3.wr (u := dicO X.prog X.w p [(.tup ks, b, u)]) ap2 (fun _ z => nomatch z)
            exact post_dic ok5 (Wd.Ok.wr_fut ((f.trans ok1 f1).trans ok2 f2) hp) hp ap5 hs (by simp) (by show 1 ≤ sizeLine; decide) (.cons (hk.keep ok3 k5) hd ru (i2.keep ok3 k5) .nil) h
          · exact h.elim
        · exact h.elim
  exact ⟨W0, env, rfl, ok1, en.mono ok f.toFut0, hf⟩
/-- d.get(k) -/
def tGetN (G : Sg) (td ty : TE) : TE := fun σ H Q => td σ H fun x H1 => ∃ a xs0, x = .ref a ∧ DAt G H1 a xs0 ∧ ty σ H1 fun y H2 => ∃ xs q k, y = .ref q ∧ DAt G H2 a xs ∧ KeyAt H2 k (.ref q) ∧ k.depth ≤ 8 ∧
  ∃ v, RelV v (((atKey xs k).map (·.2)).getD .none) ∧ Q v H2
theorem pe_getN {o : Expr} {apos cpos : Pos} {td ty : TE} (hu : X.A.units + 65 < cLine) (ho : PE X o td) (he : PE X e ty) (m : M1 X o "get" apos e cpos) : PE X (.Call (.Attribute o "get" apos) [e] [] cpos) (tGetN (sg X) td ty) := by
  refine ⟨fun pins s σ H Q I h => ?_⟩
  refine wpAny_Call_method m.base m.few m.line PySem.F.plainAttrs_dict PySem.F.slot_dict_get PySem.F.type_dict_get (thn (ho.run pins s σ H _ I h) fun u s1 ⟨x, H1, I1, rx, a, xs0, ex, d, q1⟩ => ?_)
  subst ex
  obtain rfl : u = Value.ref a := rx
  refine ⟨dat_typeIs d I1, dat_noDict d I1, ?_⟩
  rw [m.trees]
  refine Calls.callWith_builtin rfl (Calls.evalArgs_plain (Calls.spliced_cons (thn (he.run pins s1 σ H1 _ I1 q1) fun iv s2 ⟨y, H2, I2, ry, xs, q, k, ey, d2, hk, hd, v, rv, q2⟩ => Calls.spliced_nil ?_)))
  subst ey
  cases ry
  exact call_meetsIn PySem.F.slot_dict_get (d2.ofH I2).typeIs PySem.F.entry_dict_get (PySem.F.args_dict_get_2 _ _) (meetsH_dict_get (nestedKind X.prog X.w) a q d2.sys) ⟨room_of hu, k, xs, key_of I2 hk hd, d2.ofH I2, v, H2, I2.tok _, rv, q2⟩
def kGetN (x y : D) (M : Mem) : Res D := match nk y, dicAt M x with
  | some (.tup ks), some l => if (NestedKey.tup ks).depth ≤ 8 then .ok ((valD l (.tup ks)).getD .non) M else .bad
  | _, _ => .bad
def eGetN (f g : Fe) : Fe := fun env M => (f env M).bind fun x M1 => if (dicAt M1 x).isSome = true then (g env M1).bind fun y M2 => kGetN x y M2 else .bad
theorem de_getN {o : Expr} {apos cpos : Pos} (hu : X.A.units + 65 < cLine) (ho : PE X o (tE (sg X) E fa)) (he : PE X e (tE (sg X) E fb)) (m : M1 X o "get" apos e cpos := by exact ⟨rfl, rfl, rfl, rfl⟩) : PE X (.Call (.Attribute o "get" apos) [e] [] cpos) (tE (sg X) E (eGetN fa fb)) := (pe_getN hu ho he m).weak fun σ H Q h => by
  obtain ⟨w, env, rfl, ok, en, h⟩ := h
  refine ⟨w, env, rfl, ok, en, (PostG.bind (I := Is X.K) h).imp ?_⟩
  rintro b _ ⟨w1, x, rfl, ok1, f1, _, i1, h1⟩
  split at h1
  · rename_i hs
    obtain ⟨l0, e0⟩ := Option.isSome_iff_exists.mp hs
    obtain ⟨a, xs0, rfl, d0, _⟩ := dicAt_is ok1 i1 e0
    refine ⟨a, xs0, rfl, d0, w1, env, rfl, ok1, en.mono ok f1.toFut0, (PostG.bind (I := Is X.K) h1).imp ?_⟩
    rintro c _ ⟨w2, y, rfl, ok2, f2, _, i2, h2⟩
    have ix := i1.mono ok1 f2.toFut0
    unfold kGetN at h2
    split at h2
    · rename_i ks l e1 e2
      split at h2
      · rename_i hd
        have hk := nk_is y c _ i2 e1
        obtain ⟨q, rfl⟩ := hk.ref_of
        obtain ⟨a', xs, ea, da, dic⟩ := dicAt_is ok2 ix e2
        cases ea
        refine ⟨xs, q, _, rfl, da, hk, hd, ?_⟩
        have z := dic_val dic (.tup ks)
        cases q1 : valD l (.tup ks) with
        | none =>
          rw [q1] at z h2
          cases q2 : atKey xs (.tup ks) with
          | none => exact ⟨.non, rfl, PostG.now h2 ok2 .non⟩
          | some p => rw [q2] at z; exact z.elim
        | some d =>
          rw [q1] at z h2
          cases q2 : atKey xs (.tup ks) with
          | none => rw [q2] at z; exact z.elim
          | some p =>
            rw [q2] at z
            obtain ⟨v, rv, iv⟩ := z
            exact ⟨v, rv, PostG.now h2 ok2 iv⟩
      · exact h2.elim
    · exact h2.elim
  · exact h1.elim
end
end Dl

set_option maxHeartbeats 1000000
/-! The data layer, part N: sorted, repr. -/
namespace Dl
open PySem PySem.Spec PyProof.Rows L2
open PySem.W (EachIs AllAlike Sortable dataLe sorted_data alike list_sort_data)
mutual
theorem reads_lt {h : Heap} : ∀ (d : PyData) (v : Value) (as : List Addr), Reads h v d as → ∀ a ∈ as, a < h.objs.size
  | .none, _, _, .none, _, hm => by cases hm
  | .bool _, _, _, .bool _, _, hm => by cases hm
  | .int _, _, _, .int _ _, _, hm => by cases hm
  | .str _, _, _, .str _ _, _, hm => by cases hm
  | .list xs, _, _, .list h1 _ _ h4, a, hm => by
    rcases List.mem_cons.mp hm with e | hm
    · subst e; exact Heap.lt_size h1
    · exact readsAll_lt xs _ _ h4 a hm
  | .tuple xs, _, _, .tuple h1 _ _ h4, a, hm => readsAll_lt xs _ _ h4 a hm
  | .dict kvs, _, _, .dict h1 _ _ h4 h5, a, hm => by
    rcases List.mem_append.mp hm with hm | hm
    · rcases List.mem_cons.mp hm with e | hm
      · subst e; exact Heap.lt_size h1
      · exact readsK_lt kvs _ _ h4 a hm
    · exact readsV_lt kvs _ _ h5 a hm
theorem readsAll_lt {h : Heap} : ∀ (ds : List PyData) (vs : List Value) (as : List Addr), ReadsAll h vs ds as → ∀ a ∈ as, a < h.objs.size
  | [], _, _, .nil, _, hm => by cases hm
  | d :: ds, _, _, .cons h1 h2, a, hm => (List.mem_append.mp hm).elim (reads_lt d _ _ h1 a) (readsAll_lt ds _ _ h2 a)
theorem readsK_lt {h : Heap} : ∀ (ds : List (PyData × PyData)) (vs : List Value) (as : List Addr), ReadsAll h vs (ds.map (·.1)) as → ∀ a ∈ as, a < h.objs.size
  | [], _, _, .nil, _, hm => by cases hm
  | (d, e) :: ds, _, _, .cons h1 h2, a, hm => (List.mem_append.mp hm).elim (reads_lt d _ _ h1 a) (readsK_lt ds _ _ h2 a)
theorem readsV_lt {h : Heap} : ∀ (ds : List (PyData × PyData)) (vs : List Value) (as : List Addr), ReadsAll h vs (ds.map (·.2)) as → ∀ a ∈ as, a < h.objs.size
  | [], _, _, .nil, _, hm => by cases hm
  | (e, d) :: ds, _, _, .cons h1 h2, a, hm => (List.mem_append.mp hm).elim (reads_lt d _ _ h1 a) (readsV_lt ds _ _ h2 a)
end
section
variable {X : Cx} {E : XK} {w : Wd} {a b e : Expr} {es : List Expr} {ga : Fa} {pos p : Pos} {pins : List (Addr × Obj)} {σ : L2.St} {H : Hp} {s : Shared}
theorem vals_each : ∀ {bs : List (V × PyData)} {us : List Value}, Vals (bs.map (·.1)) us → EachIs (fun u b => RelV b.1 u) us bs
  | [], _, h => by cases h; exact .nil
  | b :: bs, _, h => by
    rw [List.map_cons] at h
    cases h with
    | cons h t => exact .cons h (vals_each t)
theorem each_vals : ∀ {bs : List (V × PyData)} {us : List Value}, EachIs (fun u b => RelV b.1 u) us bs → Vals (bs.map (·.1)) us
  | [], _, h => by cases h; exact .nil
  | b :: bs, _, h => by
    cases h with
    | cons h t => exact .cons h (each_vals t)
theorem each_reads (I : Inv X pins σ H s) : ∀ {bs : List (V × PyData)} {us : List Value}, Vals (bs.map (·.1)) us → (∀ b ∈ bs, Dp X.K H b.1 b.2) → EachIs (fun u b => ∃ as, Reads s.heap u b.2 as) us bs
  | [], _, h, _ => by cases h; exact .nil
  | b :: bs, _, h, g => by
    rw [List.map_cons] at h
    cases h with
    | cons h t => exact .cons (Dp.reads I _ _ _ (g b List.mem_cons_self) h) (each_reads I t fun c hc => g c (List.mem_cons_of_mem _ hc))
theorem each_imp {α β : Type} {R S : α → β → Prop} (h : ∀ a b, R a b → S a b) : ∀ {as : List α} {bs : List β}, EachIs R as bs → EachIs S as bs
  | _, _, .nil => .nil
  | _, _, .cons x t => .cons (h _ _ x) (each_imp h t)
/-- sorted(xs) of data that are alike -/
def rSortD (K : PySem.W.Frag) : List V → Hp → VK → Prop := fun xs H Q => ∃ (a : Addr) (bs : List (V × PyData)), xs = [.ref a] ∧ SqL K H a (bs.map (·.1)) ∧ (∀ b ∈ bs, Dp K H b.1 b.2) ∧ AllAlike (bs.map (·.2)) ∧ Sortable (bs.map (·.2)) ∧ (∀ b ∈ bs, b.2.depth ≤ 40) ∧
  ∀ p, H p = none → Q (.ref p) (upd H p (.lst ((bs.mergeSort (dataLe false (·.2))).map (·.1))))
theorem cr_sortD (hu : X.A.units + 65 < cLine) : CallR X (.builtin "sorted") (rSortD X.K) := by
  intro pins s σ H xs us Q I r h
  obtain ⟨a, bs, rfl, hs, hd, hal, hk, hdp, q⟩ := h
  obtain rfl := Vals.ref1 r
  obtain ⟨its, rv, pl, hz⟩ := I.list hs
  have hlen : its.length = bs.length := by have := rv.length; simpa using this.symm
  refine sorted_data (R := fun u b => RelV b.1 u) (enc := (·.2)) (bs := bs) (vs := its) pl.isList (vals_each rv) (each_reads I rv hd) hal hk (by rw [List.length_map] at hz; exact hz) (fun b hb => by have := hdp b hb; omega) fun out hl eo => ?_
  obtain ⟨ep, he⟩ := sortedAll_at s.heap its (List.toArray out)
  have hz2 : (bs.mergeSort (dataLe false (·.2))).length = bs.length := List.length_mergeSort _
  refine ⟨.ref (s.heap.objs.size + 1), _, I.laid (a := s.heap.objs.size + 1) (t' := s.toks) (fun b o e => sortedAll_old e) (Nat.le_succ _)
    (show ObjOk X.prog X.w _ _ _ (.lst ((bs.mergeSort (dataLe false (·.2))).map (·.1))) from ⟨by rw [List.length_map, hz2]; rw [List.length_map] at hz; exact hz, out, ep, each_vals eo, he⟩), rfl, q _ (I.hok.fresh (Nat.le_succ _))⟩
/-- data of a list -/
def prs (M : Mem) : List D → Option (List (D × PyData))
  | [] => some []
  | d :: r => match py M d, prs M r with
    | some x, some y => some ((d, x) :: y)
    | _, _ => none
def sortL (bs : List (D × PyData)) : List D := (bs.mergeSort (dataLe false (·.2))).map (·.1)
def alikeC (ds : List PyData) : Bool := ds.all fun d => ds.all fun e => alike d e
def sortC (ds : List PyData) : Bool := (ds.all fun d => match d with
    | .tuple (_ :: _) => true
    | _ => false) || (ds.all fun d => match d with
    | .none => false
    | .tuple _ => false
    | _ => true)
theorem alikeC_ok {ds : List PyData} (h : alikeC ds = true) : AllAlike ds := fun d hd e he => List.all_eq_true.mp (List.all_eq_true.mp h d hd) e he
theorem sortC_ok {ds : List PyData} (h : sortC ds = true) : Sortable ds := by
  unfold sortC at h
  rcases (Bool.or_eq_true _ _).mp h with h | h
  · left
    intro d hd
    have z := List.all_eq_true.mp h d hd
    split at z
    · exact ⟨_, _, rfl⟩
    · cases z
  · right
    intro d hd
    have z := List.all_eq_true.mp h d hd
    split at z
    · cases z
    · cases z
    · rename_i h1 h2
      exact ⟨h1, fun xs e => h2 xs e⟩
theorem prs_is (ok : w.Ok (sg X)) : ∀ {l : List D} {vs : List V} {bs : List (D × PyData)}, IsAll X.K w l vs → prs w.M l = some bs → ∃ ts : List (D × V × PyData), bs = ts.map (fun t => (t.1, t.2.2)) ∧ vs = ts.map (·.2.1) ∧ ∀ t ∈ ts, Is X.K w t.1 t.2.1 ∧ Dp X.K w.H t.2.1 t.2.2
  | _, _, _, .nil, e => by cases e; exact ⟨[], rfl, rfl, fun _ h => (nomatch h)⟩
  | d :: l, v :: vs, bs, .cons h t, e => by
    rw [prs] at e
    split at e
    · rename_i x y e1 e2
      cases e
      obtain ⟨ts, rfl, rfl, hh⟩ := prs_is ok t e2
      exact ⟨(d, v, x) :: ts, rfl, rfl, fun z hz => (List.mem_cons.mp hz).elim (fun e => by subst e; exact ⟨h, py_dp ok d v x h e1⟩) (hh z)⟩
    · cases e
theorem isAll_of {K : PySem.W.Frag} : ∀ {ts : List (D × V × PyData)}, (∀ t ∈ ts, Is K w t.1 t.2.1) → IsAll K w (ts.map (·.1)) (ts.map (·.2.1))
  | [], _ => .nil
  | t :: ts, h => .cons (h t List.mem_cons_self) (isAll_of fun z hz => h z (List.mem_cons_of_mem _ hz))
theorem sort_map {α β : Type} (f : α → β) (le : β → β → Bool) (l : List α) : (l.mergeSort (fun x y => le (f x) (f y))).map f = (l.map f).mergeSort le := List.map_mergeSort (fun _ _ _ _ => rfl)
def kSort (l : List D) (M : Mem) : Res (List D) := match l with
  | [d] => (match asR M d with
    | some t => (match prs M t with
      | some bs => if alikeC (bs.map (·.2)) && (sortC (bs.map (·.2)) && bs.all fun b => decide (b.2.depth ≤ 40)) then .ok (sortL bs) M else .bad
      | none => .bad)
    | none => .bad)
  | _ => .bad
def fSort (g : Fa) : Fa := fun env M => (g env M).bind fun l M1 => kSort l M1
theorem dl_sort {x : Str} (hu : X.A.units + 65 < cLine) (hg : Gl X x) (hm : X.mg x = none) (ha : PA X (e :: es) (tA (sg X) E ga)) (hv : bootBuiltins x = some (.builtin "sorted") := by rfl) (hn : x ≠ "__name__" := by decide) (hdb : (x == ("__debug__" : Str)) = false := by decide)
    (he : starEach (e :: es) X.env = (false, eval e X.env) :: starEach es X.env := by rfl) (hpl : (backTo pos (starEach es X.env)).any (·.1) = false := by rfl) : PE X (.Call (.Name x p) (e :: es) [] pos) (tL (sg X) E (fSort ga)) :=
  (pe_callB (cr_sortD hu) hg hm hv ha hn hdb he hpl).weak fun σ H Q h => by
  obtain ⟨w, env, rfl, ok, en, h⟩ := h
  refine ⟨w, env, rfl, ok, en, (PostL.bindI (I := IsAll X.K) h).imp ?_⟩
  rintro b _ ⟨w1, a, rfl, ok1, f1, _, il, h1⟩
  unfold kSort at h1
  split at h1
  · split at h1
    · rename_i t ht
      split at h1
      · rename_i bs hb
        split at h1
        · rename_i hc
          rw [Bool.and_eq_true, Bool.and_eq_true] at hc
          cases il with
          | cons i r =>
            cases r
            obtain ⟨p, us, rfl, h2, h3⟩ := asR_is ok1 i ht
            obtain ⟨ts, rfl, rfl, hh⟩ := prs_is ok1 h3 hb
            have em : (ts.map fun t => (t.1, t.2.2)).map (·.2) = ts.map (·.2.2) := by rw [List.map_map]; rfl
            rw [em] at hc
            refine ⟨p, ts.map (·.2), rfl, by rw [List.map_map]; exact h2, fun b hb => ?_, by rw [List.map_map]; exact alikeC_ok hc.1, by rw [List.map_map]; exact sortC_ok hc.2.1, fun b hb => ?_, fun l hl => ?_⟩
            · obtain ⟨t, ht, rfl⟩ := List.mem_map.mp hb
              exact (hh t ht).2
            · obtain ⟨t, ht, rfl⟩ := List.mem_map.mp hb
              have := List.all_eq_true.mp hc.2.2 (t.1, t.2.2) (List.mem_map.mpr ⟨t, ht, rfl⟩)
              exact of_decide_eq_true this
            · have e1 : ((ts.map (·.2)).mergeSort (dataLe false (·.2))) = (ts.mergeSort (dataLe false (·.2.2))).map (·.2) := (sort_map (fun t : D × V × PyData => t.2) (dataLe false (·.2)) ts).symm
              have e2 : ((ts.map fun t => (t.1, t.2.2)).mergeSort (dataLe false (·.2))) = (ts.mergeSort (dataLe false (·.2.2))).map (fun t => (t.1, t.2.2)) := (sort_map (fun t : D × V × PyData => (t.1, t.2.2)) (dataLe false (·.2)) ts).symm
              rw [e1, List.map_map]
              have e3 : sortL (ts.map fun t => (t.1, t.2.2)) = (ts.mergeSort (dataLe false (·.2.2))).map (·.1) := by
                unfold sortL
                rw [e2, List.map_map]; rfl
              rw [e3] at h1
              exact post_new ok1 ok1 (Fut.refl w1) h1 (isAll_of fun t ht => (hh t (List.mem_mergeSort.mp ht)).1) l hl hl
        · exact h1.elim
      · exact h1.elim
    · exact h1.elim
  · exact h1.elim
end
end Dl

set_option maxHeartbeats 1000000
/-! The data layer, part O: sorted of a dict, repr. -/
namespace Dl
open PySem PySem.Spec PyProof.Rows L2
open PySem.W (EachIs AllAlike Sortable dataLe sorted_data alike list_sort_data)
mutual
def pyK : NestedKey → PyData
  | .none => .none
  | .num i => .int i
  | .text x => .str x
  | .tup ks => .tuple (pyKs ks)
def pyKs : List NestedKey → List PyData
  | [] => []
  | k :: r => pyK k :: pyKs r
end
section
variable {K : PySem.W.Frag} {H : Hp}
mutual
theorem key_dp : ∀ {k : NestedKey} {v : V}, KeyAt H k v → Dp K H v (pyK k)
  | .none, _, .none => .non
  | .num _, _, .num i => .int i
  | .text _, _, .text x => .str x
  | .tup ks, _, .tup h1 h2 => .tup (.inl (.inl h1)) (keys_dp h2)
theorem keys_dp : ∀ {ks : List NestedKey} {vs : List V}, KeysAt H ks vs → DpAll K H vs (pyKs ks)
  | _, _, .nil => .nil
  | _, _, .cons h t => .cons (key_dp h) (keys_dp t)
end
end
section
variable {X : Cx} {E : XK} {w : Wd} {a b e : Expr} {es : List Expr} {ga : Fa} {pos p : Pos} {pins : List (Addr × Obj)} {σ : L2.St} {H : Hp} {s : Shared}
def rSortN (G : Sg) : List V → Hp → VK → Prop := fun vs H Q => ∃ (a : Addr) (xs : RawE), vs = [.ref a] ∧ DAt G H a xs ∧ AllAlike (xs.map fun y => pyK y.1) ∧ Sortable (xs.map fun y => pyK y.1) ∧ (∀ y ∈ xs, (pyK y.1).depth ≤ 40) ∧
  ∀ p, H p = none → Q (.ref p) (upd H p (.lst (((xs.map fun y => (V.ref y.2.1, pyK y.1)).mergeSort (dataLe false (·.2))).map (·.1))))
theorem cr_sortN (hc : X.calm = true) (hu : X.A.units + 65 < cLine) : CallR X (.builtin "sorted") (rSortN (sg X)) := by
  intro pins s σ H xs us Q I r q
  obtain ⟨a, xs, ex, hd, hal, hk, hdp, q⟩ := q
  subst ex
  obtain ⟨u, eu, rx⟩ := vals1 r
  subst eu
  cases rx
  obtain ⟨o, es, ep, h1, h2, h3, h4⟩ := hd.raw I
  have hsz : es.size = xs.length := by rw [← Array.length_toList, h4, List.length_map]
  refine Calls.call_function_entry PyProof.Rows.kind_sorted PyProof.Rows.plain_sorted PyProof.Rows.entry_sorted (PyProof.Rows.args_sorted1 _) ?_
  unfold Builtin.«sorted»
  refine wpAny_bind (m := checkCount "sorted" 1 1 _) (wpAny_pure ?_)
  refine wpAny_bind (PySem.W.kdu_collect (A := X.A.in1) (PySem.KdlSrc.rawDict (es := es) (ep := ep) hd.sys) (I.ok.hd hc) ⟨o, h1, h2, h3⟩ (by rw [hsz]; exact hd.len) fun h' tk acc hk' hacc => ?_)
  have hacl : acc.toList = xs.map fun y => Value.ref y.2.1 := by
    refine List.ext_getElem? fun j => ?_
    rw [List.getElem?_map, Array.getElem?_toList]
    cases e : acc[j]? with
    | none =>
      have l1 : acc.size ≤ j := by simpa using e
      rw [hacc.1, hsz] at l1
      rw [List.getElem?_eq_none l1]; rfl
    | some v =>
      obtain ⟨hi, rfl⟩ := hacc.2 j v e
      have z : es.toList[j]? = some es[j] := by rw [Array.getElem?_toList]; exact Array.getElem?_eq_getElem hi
      rw [h4, List.getElem?_map] at z
      cases e2 : xs[j]? with
      | none => rw [e2] at z; cases z
      | some y =>
        rw [e2] at z
        have z2 : entryOfKey (nestedKind X.prog X.w) y = es[j] := Option.some.inj z
        rw [← z2]
        rfl
  generalize hL : acc.toList = its at *
  have I1 : Inv X pins σ H { s with heap := h', toks := tk } := I.kept hk'
  have hal2 : its.length = xs.length := by rw [hacl, List.length_map]
  refine wpAny_bind (wpAny_newList ?_ (by rw [hal2]; exact hd.len))
  have hoL : (h'.push (seqObj "list" its.toArray 0)).get? h'.objs.size = some (seqObj "list" its.toArray 0) := Heap.get?_push_size _ rfl
  show wpAny _ _ _ _ _ { s with heap := h'.push (seqObj "list" its.toArray 0), toks := tk }
  have rv : Vals ((xs.map fun y => (V.ref y.2.1, pyK y.1)).map (·.1)) its := by
    rw [hacl, List.map_map]
    have : ∀ (l : RawE), Vals (l.map ((fun x : V × PyData => x.1) ∘ fun y => (V.ref y.2.1, pyK y.1))) (l.map fun y => Value.ref y.2.1) := fun l => by
      induction l with
      | nil => exact .nil
      | cons y l ih => exact .cons rfl ih
    exact this xs
  have er : EachIs (fun u b => ∃ as, Reads (h'.push (seqObj "list" its.toArray 0)) u b.2 as ∧ h'.objs.size ∉ as) its (xs.map fun y => (V.ref y.2.1, pyK y.1)) :=
    each_imp (fun u b ⟨as, r⟩ => ⟨as, PyProof.Rows.Reads.keeps (fun _ _ e => Heap.get?_push_of_some _ e) r, fun z => absurd (reads_lt _ _ _ r _ z) (Nat.lt_irrefl _)⟩)
      (each_reads I1 rv fun b hb => by
        obtain ⟨y, hy, rfl⟩ := List.mem_map.mp hb
        exact key_dp (hd.keys y hy).1)
  have em : (xs.map fun y => (V.ref y.2.1, pyK y.1)).map (·.2) = xs.map fun y => pyK y.1 := by rw [List.map_map]; rfl
  have hl3 : (xs.map fun y => (V.ref y.2.1, pyK y.1)).length = xs.length := List.length_map ..
  refine wpAny_bind (wpAny_holding (list_sort_data (s := { s with heap := h'.push (seqObj "list" its.toArray 0), toks := tk }) (R := fun u b => RelV b.1 u) (enc := (·.2)) (bs := xs.map fun y => (V.ref y.2.1, pyK y.1)) hoL (vals_each rv) er (by rw [em]; exact hal) (by rw [em]; exact hk) (by rw [hl3]; exact hd.len)
    (fun b hb => by
      obtain ⟨y, hy, rfl⟩ := List.mem_map.mp hb
      have := hdp y hy
      show X.A.units + 1 + 1 + (pyK y.1).depth < cLine
      omega) fun out hl eo => ?_))
  obtain ⟨e', he'⟩ := PyProof.Rows.sortedHeap_at (vs := its) (out := List.toArray out) hoL
  have hz2 : ((xs.map fun y => (V.ref y.2.1, pyK y.1)).mergeSort (dataLe false (·.2))).length = xs.length := by rw [List.length_mergeSort, hl3]
  refine wpAny_pure ⟨_, rfl, .ref h'.objs.size, _, I1.laid (t' := tk) (a := h'.objs.size) (fun b u e => ?_) (Nat.le_refl _)
    (show ObjOk X.prog X.w _ _ _ (.lst (((xs.map fun y => (V.ref y.2.1, pyK y.1)).mergeSort (dataLe false (·.2))).map (·.1))) from ⟨by rw [List.length_map, hz2]; exact hd.len, out, e', each_vals eo, he'⟩), rfl, q _ (I1.hok.fresh (Nat.le_refl _))⟩
  have hb : b < h'.objs.size := Heap.lt_size e
  rw [PyProof.Rows.sortedHeap_old (Nat.ne_of_lt hb) (by rw [size_push']; exact Nat.lt_succ_of_lt hb)]
  exact Heap.get?_push_of_some _ e
def kSortN (l : List D) (M : Mem) : Res (List D) := match l with
  | [d] => (match dicAt M d with
    | some t => if alikeC (t.map fun y => pyK y.1) && (sortC (t.map fun y => pyK y.1) && t.all fun y => decide ((pyK y.1).depth ≤ 40)) then .ok (((t.map (·.1)).mergeSort (dataLe false pyK)).map kD) M else .bad
    | none => .bad)
  | _ => .bad
def fSortN (g : Fa) : Fa := fun env M => (g env M).bind fun l M1 => kSortN l M1
theorem dl_sortN {x : Str} (hc : X.calm = true) (hu : X.A.units + 65 < cLine) (hg : Gl X x) (hm : X.mg x = none) (ha : PA X (e :: es) (tA (sg X) E ga)) (hv : bootBuiltins x = some (.builtin "sorted") := by rfl) (hn : x ≠ "__name__" := by decide) (hdb : (x == ("__debug__" : Str)) = false := by decide)
    (he : starEach (e :: es) X.env = (false, eval e X.env) :: starEach es X.env := by rfl) (hpl : (backTo pos (starEach es X.env)).any (·.1) = false := by rfl) : PE X (.Call (.Name x p) (e :: es) [] pos) (tL (sg X) E (fSortN ga)) :=
  (pe_callB (cr_sortN hc hu) hg hm hv ha hn hdb he hpl).weak fun σ H Q h => by
  obtain ⟨w, env, rfl, ok, en, h⟩ := h
  refine ⟨w, env, rfl, ok, en, (PostL.bindI (I := IsAll X.K) h).imp ?_⟩
  rintro b _ ⟨w1, a, rfl, ok1, f1, _, il, h1⟩
  unfold kSortN at h1
  split at h1
  · split at h1
    · rename_i t ht
      split at h1
      · rename_i hcc
        rw [Bool.and_eq_true, Bool.and_eq_true] at hcc
        cases il with
        | cons i r =>
          cases r
          obtain ⟨a, xs, rfl, d, dic⟩ := dicAt_is ok1 i ht
          have hkk : (xs.map fun y => pyK y.1) = t.map fun y => pyK y.1 := by
            have := congrArg (List.map pyK) (dic_keys dic)
            rw [List.map_map, List.map_map] at this
            exact this
          have hkd : ∀ y ∈ xs, (pyK y.1).depth ≤ 40 := fun y hy => by
            have hm1 : y.1 ∈ t.map (·.1) := by rw [← dic_keys dic]; exact List.mem_map.mpr ⟨y, hy, rfl⟩
            obtain ⟨z, hz, e⟩ := List.mem_map.mp hm1
            have := List.all_eq_true.mp hcc.2.2 z hz
            rw [e] at this
            exact of_decide_eq_true this
          refine ⟨a, xs, rfl, d, by rw [hkk]; exact alikeC_ok hcc.1, by rw [hkk]; exact sortC_ok hcc.2.1, hkd, fun l hl => ?_⟩
          have e1 : ((xs.map fun y => (V.ref y.2.1, pyK y.1)).mergeSort (dataLe false (·.2))) = (xs.mergeSort (dataLe false fun y => pyK y.1)).map (fun y => (V.ref y.2.1, pyK y.1)) := (sort_map (fun y : NestedKey × Addr × Value => (V.ref y.2.1, pyK y.1)) (dataLe false (·.2)) xs).symm
          have e2 : ((t.map (·.1)).mergeSort (dataLe false pyK)) = (xs.mergeSort (dataLe false fun y => pyK y.1)).map (·.1) := by rw [← dic_keys dic]; exact (sort_map (fun y : NestedKey × Addr × Value => y.1) (dataLe false pyK) xs).symm
          rw [e1, List.map_map]
          rw [e2, List.map_map] at h1
          have ia : ∀ (ys : RawE), (∀ y ∈ ys, y ∈ xs) → IsAll X.K w1 (ys.map (kD ∘ fun y => y.1)) (ys.map ((fun x : V × PyData => x.1) ∘ fun y => (V.ref y.2.1, pyK y.1))) := fun ys => by
            induction ys with
            | nil => intro _; exact .nil
            | cons y ys ih => intro h; exact .cons (kD_is (d.keys y (h y List.mem_cons_self)).1) (ih fun z hz => h z (List.mem_cons_of_mem _ hz))
          exact post_new ok1 ok1 (Fut.refl w1) h1 (ia _ fun y hy => List.mem_mergeSort.mp hy) l hl hl
      · exact h1.elim
    · exact h1.elim
  · exact h1.elim

/-! ### repr -/
def rRepr (K : PySem.W.Frag) : List V → Hp → VK → Prop := fun vs H Q => ∃ (a : Addr) (d : PyData), vs = [.ref a] ∧ Dp K H (.ref a) d ∧ d.showable = true ∧ d.hasDict = false ∧ d.depth ≤ 40 ∧ d.shown.length ≤ sizeLine ∧ Q (.str d.shown) H
theorem cr_repr (hg : X.A.guards = some []) (hu : X.A.units + 65 < cLine) : CallR X (.builtin "repr") (rRepr X.K) := by
  intro pins s σ H xs us Q I r h
  obtain ⟨a, d, rfl, hd, h1, h2, h3, h4, q⟩ := h
  obtain rfl := Vals.ref1 r
  obtain ⟨as, rd⟩ := Dp.reads I d _ _ hd rfl
  exact repr_of_reads' rd h1 (fun z => by rw [h2] at z; cases z) hg (by omega) (fun b o e => e) (fun h' u tk hk => ⟨.str _, H, I.kept hk, ⟨_, rfl⟩, q⟩) h4
def kRepr (l : List D) (M : Mem) : Res D := match l with
  | [d] => (match isRef d, py M d with
    | true, some p => if p.showable && (!p.hasDict && (decide (p.depth ≤ 40) && decide (p.shown.length ≤ sizeLine))) then .ok (.str p.shown) M else .bad
    | _, _ => .bad)
  | _ => .bad
where isRef : D → Bool
  | .tup _ => true
  | .lst _ => true
  | .adr _ => true
  | _ => false
theorem clo_repr : Clo X E (rRepr X.K) kRepr := fun w l vs Q ok il h => by
  unfold kRepr at h
  split at h
  · split at h
    · rename_i p e1 e2
      split at h
      · rename_i hc
        simp only [Bool.and_eq_true, decide_eq_true_eq, Bool.not_eq_true'] at hc
        cases il with
        | cons i r =>
          cases r
          have hp := py_dp ok _ _ p i e2
          cases i with
          | tup => exact ⟨_, p, rfl, hp, hc.1, hc.2.1, hc.2.2.1, hc.2.2.2, PostG.now h ok (.str _)⟩
          | lst => exact ⟨_, p, rfl, hp, hc.1, hc.2.1, hc.2.2.1, hc.2.2.2, PostG.now h ok (.str _)⟩
          | adr => exact ⟨_, p, rfl, hp, hc.1, hc.2.1, hc.2.2.1, hc.2.2.2, PostG.now h ok (.str _)⟩
          | _ => cases e1
      · exact h.elim
    · exact h.elim
  · exact h.elim
end
end Dl

set_option maxHeartbeats 1000000
/-! The data layer, part P: functions, calls, the law's end. -/
namespace Dl
open PySem PySem.Spec PyProof.Rows L2

/-- a def's promise, where nothing guards (repr asks for it) -/
structure FnG (P : Program) (w : World) (K : PySem.W.Frag) (mg : Str → Option Value) (base : Heap) (k : Nat) (f : Addr) (fd : FuncData) (ps : List Str) (sp : Sp) : Prop where
  len : ∀ vs H Q E, sp vs H Q E → vs.length = ps.length
  run : ∀ (A : Around) (outer : List PySem.Env) (s : Shared) (H : Hp) (args : Args) (us : List Value) (vs : List V) (Q : VK) (E : XK), A.guards = some [] → Room k A → Env0 P w K mg base A outer s H → BindsTo s fd args (ps.zip us) → Vals vs us → sp vs H Q E →
    codeAny (model P w) A (.call (.ref f) args) (CR CX0 outer P w H s Q E) s
section
variable {P : Program} {w : World} {K : PySem.W.Frag} {mg : Str → Option Value} {base : Heap} {x qual : Str} {params : Arguments} {body : List Stmt} {scope : Scope} {f : Addr} {fd : FuncData}
theorem FnG.mono {j k : Nat} {ps : List Str} {sp : Sp} (F : FnG P w K mg base j f fd ps sp) (h : j ≤ k) : FnG P w K mg base k f fd ps sp := ⟨F.len, fun A outer s H args us vs Q E hg hr => F.run A outer s H args us vs Q E hg (hr.mono h)⟩
theorem fnG_of {k : Nat} {dV kV doc pm cdv ct oc : Value} {an od : Option Addr}
    {osl : Array (Option Value)} {N ps : List Str} {sp : Sp} (lk : K.lookup f = some ⟨oc, od, .func (PySem.W.fnOf x qual params body scope dV kV doc pm an cdv ct), osl⟩) (hcd : PySem.W.codeIn K cdv qual = true) (S : FnScope N ps scope)
    (len : ∀ vs H Q E, sp vs H Q E → vs.length = ps.length)
    (hbody : ∀ (A : Around) (outer : List PySem.Env) (s : Shared) (H : Hp) (vs : List V) (Q : VK) (E : XK), A.guards = some [] → Room k (A.deeper (envOfC qual scope s.heap.objs.size f cdv)) → sp vs H Q E →
      ∃ t, PSs (cxOf CX0 P w K mg base N qual scope f cdv A outer s H E) body t ∧ t { nx := fun _ H' => Q .non H', rt := Q } (L2.start N vs) H) :
    FnG P w K mg base (k + 1) f (PySem.W.fnOf x qual params body scope dV kV doc pm an cdv ct) ps sp := by
  refine ⟨len, fun A outer s H args us vs Q E hg hr e0 hb r hsp => ?_⟩
  have hl := len _ _ _ _ hsp
  have KX : K.In s.heap := e0.mod.kin.keeps fun b o e => (e0.bs b o e).1
  have lim : s.heap.NoLimit := e0.mod.nolimit.keeps fun b o e => (e0.bs b o e).1
  have hkind : ∀ y ∈ ps.zip us, scope.names.lookup y.1 = some .local ∨ (scope.names.lookup y.1 = some .cell ∧ ((cellsFrom (s.heap.objs.size + 1) scope.names []).lookup y.1).isSome = true) := fun ⟨n, v⟩ hy => by
    rcases S.par n (List.of_mem_zip hy).1 with q | q
    · exact .inl q
    · exact .inr ⟨q, PySem.W.cellsFrom_some _ _ _ (.inl q)⟩
  refine codeAny_call_function hr.depth (KX _ _ lk) rfl S.co S.gen rfl (PySem.W.codeRec_of KX hcd) (hb _ _ _ _ ?_)
  refine wpAny_newFunctionEnv_cells S.kind hkind fun env he s1 x => ?_
  subst he
  refine ⟨lim.keeps x.toInCall.keep, codeAny_func ?_⟩
  obtain ⟨t, ht, hq⟩ := hbody A outer s H vs Q E hg (hr.deeper _) hsp
  have I : Inv (cxOf CX0 P w K mg base N qual scope f cdv A outer s H E) [] (L2.start N vs) H s1 := inv_start S hr.hd e0 hl r x
  refine wpAny_mono (ht.run [] s1 (L2.start N vs) H _ I hq) (fun fl s' hs => ?_) fun e s' hs => hs
  have fin : ∀ {σ' : L2.St} {H' : Hp} {v : V} {u : Value}, Inv (cxOf CX0 P w K mg base N qual scope f cdv A outer s H E) [] σ' H' s' → RelV v u → Q v H' → CE outer P w H s Q u s' :=
    fun {σ' H' v u} J rv q => ⟨v, H', J.os, J.bare, J.base, J.hok, rv, q⟩
  cases fl with
  | ret u =>
    obtain ⟨v, σ', H', J, rv, q⟩ := hs
    exact fin J rv q
  | next =>
    obtain ⟨σ', H', J, q⟩ := hs
    exact fin (v := V.non) (u := Value.none) J rfl q
  | brk =>
    obtain ⟨_, _, _, q⟩ := hs
    exact False.elim q
  | cont =>
    obtain ⟨_, _, _, q⟩ := hs
    exact False.elim q

/-- a def as a step on data -/
@[simp] def fnF (n N : Nat) (b : Fs) : Fk := fun l M => if l.length = n then (b (l.map some ++ List.replicate (N - n) none) M).bind fun fl M1 => (match fl with
    | .rt d => .ok d M1
    | .nx _ => .ok .non M1
    | _ => .bad) else .bad
def spF (G : Sg) (n : Nat) (F : Fk) : Sp := fun vs H Q _ => ∃ w l, w.H = H ∧ w.Ok G ∧ IsAll G.K w l vs ∧ l.length = n ∧ PostG G (Is G.K) w E0 (F l w.M) Q
theorem start_is {K : PySem.W.Frag} {w : Wd} {l : List D} {vs : List V} (h : IsAll K w l vs) (N : List Str) : EnvIs K w (l.map some ++ List.replicate (N.length - l.length) none) (L2.start N vs) := by
  unfold L2.start
  rw [h.length]
  refine ⟨by simp [h.length], fun i d e => ?_⟩
  by_cases hi : i < l.length
  · rw [List.getElem?_append_left (by simpa using hi), List.getElem?_map] at e
    cases q : l[i]? with
    | none => rw [q] at e; cases e
    | some d' =>
      rw [q] at e
      cases e
      obtain ⟨v, h1, h2⟩ := h.get q
      exact ⟨v, by rw [List.getElem?_append_left (by simpa [h.length] using hi), List.getElem?_map, h1]; rfl, h2⟩
  · rw [List.getElem?_append_right (by simpa using hi), List.getElem?_replicate] at e
    split at e <;> cases e
theorem okG {N ps : List Str} {k : Nat} {b : Fs} (F : FunD K x qual params body scope [] [] f fd) (S : FnScope N ps scope)
    (hbody : ∀ (cdv : Value) (A : Around) (outer : List PySem.Env) (s : Shared) (H : Hp) (E : XK), (A.deeper (envOfC qual scope s.heap.objs.size f cdv)).guards = some [] → Room k (A.deeper (envOfC qual scope s.heap.objs.size f cdv)) →
      PSs (cxOf CX0 P w K mg base N qual scope f cdv A outer s H E).nox body (tS ⟨K, P, w⟩ E0 b)) : FnG P w K mg base (k + 1) f fd ps (spF ⟨K, P, w⟩ ps.length (fnF ps.length N.length b)) := by
  obtain ⟨oc, od, dV, kV, doc, pm, an, cdv, ct, osl, rfl, lk, hcd, _, _⟩ := F.ex
  refine fnG_of lk hcd S (fun vs H Q E h => ?_) fun A outer s H vs Q E hg hr h => ⟨_, PSs.nox (hbody cdv A outer s H E hg hr), ?_⟩
  · obtain ⟨w, l, _, _, i, hl, _⟩ := h
    rw [i.length, hl]
  · obtain ⟨w, l, rfl, ok, i, hl, h⟩ := h
    have en := start_is i N
    rw [hl] at en
    refine ⟨w, _, rfl, ok, en, ?_⟩
    unfold fnF at h
    rw [if_pos hl] at h
    refine (PostG.bind (I := FlI K) h).imp ?_
    rintro fl _ ⟨w1, a, rfl, ok1, f1, _, i1, h1⟩
    cases a with
    | nx env1 =>
      cases fl with
      | nx σ1 => exact PostG.now (Q := Q) (b := V.non) h1 ok1 Is.non
      | _ => exact i1.elim
    | rt d =>
      cases fl with
      | rt v => exact PostG.now (Q := Q) h1 ok1 i1
      | _ => exact i1.elim
    | bk d => exact h1.elim
    | ct d => exact h1.elim
end

/-! ### what can be called -/
structure Cll (P : Program) (w : World) (K : PySem.W.Frag) (mg : Str → Option Value) (base : Heap) (k : Nat) (d : He.DefD) (ps : List Str) (F : Fk) : Prop where
  ex : ∃ fd, FunD K d.name d.qual d.params d.body d.scope [] [] (He.ga K d.name) fd ∧ FnG P w K mg base k (He.ga K d.name) fd ps (spF ⟨K, P, w⟩ ps.length F)
  mg : mg d.name = some (.ref (He.ga K d.name))
theorem Cll.of {P : Program} {w : World} {K : PySem.W.Frag} {mg : Str → Option Value} {base : Heap} {k : Nat} {d : He.DefD} {N ps : List Str} {b : Fs} (hF : ∃ fd, FunD K d.name d.qual d.params d.body d.scope [] [] (He.ga K d.name) fd) (hm : mg d.name = some (.ref (He.ga K d.name))) (S : FnScope N ps d.scope)
    (hbody : ∀ (cdv : Value) (A : Around) (outer : List PySem.Env) (s : Shared) (H : Hp) (E : XK), (A.deeper (envOfC d.qual d.scope s.heap.objs.size (He.ga K d.name) cdv)).guards = some [] → Room k (A.deeper (envOfC d.qual d.scope s.heap.objs.size (He.ga K d.name) cdv)) →
      PSs (cxOf CX0 P w K mg base N d.qual d.scope (He.ga K d.name) cdv A outer s H E).nox d.body (tS ⟨K, P, w⟩ E0 b)) : Cll P w K mg base (k + 1) d ps (fnF ps.length N.length b) :=
  ⟨let ⟨fd, F⟩ := hF; ⟨fd, F, okG F S hbody⟩, hm⟩
@[simp] def pick {α : Type} (idx : List Nat) (l : List α) : List α := idx.filterMap fun i => l[i]?
theorem Vals.pick {vs : List V} {us : List Value} (r : Vals vs us) : ∀ idx : List Nat, Vals (pick idx vs) (pick idx us)
  | [] => .nil
  | i :: idx => by
    unfold Dl.pick
    rw [List.filterMap_cons, List.filterMap_cons]
    cases e : vs[i]? with
    | none => rw [r.none_of e]; exact Vals.pick r idx
    | some v =>
      obtain ⟨u, h1, h2⟩ := r.get e
      rw [h1]
      exact .cons h2 (Vals.pick r idx)
theorem IsAll.pick {K : PySem.W.Frag} {w : Wd} {l : List D} {vs : List V} (r : IsAll K w l vs) : ∀ idx : List Nat, IsAll K w (pick idx l) (pick idx vs)
  | [] => .nil
  | i :: idx => by
    unfold Dl.pick
    rw [List.filterMap_cons, List.filterMap_cons]
    cases e : l[i]? with
    | none =>
      have : vs[i]? = none := by
        rw [List.getElem?_eq_none_iff] at e ⊢
        rw [r.length]; exact e
      rw [this]; exact IsAll.pick r idx
    | some v =>
      obtain ⟨u, h1, h2⟩ := r.get e
      rw [h1]
      exact .cons h2 (IsAll.pick r idx)
section
variable {X : Cx} {E : XK} {j k n : Nat} {d : He.DefD} {ps ks : List Str} {F : Fk} {e : Expr} {es : List Expr} {ga gk : Fa} {p pos : Pos} {kws : List Keyword} {idx : List Nat}
/-- how a call binds: n positional values, keywords ks, in the parameters' order by idx -/
def Bnd (d : He.DefD) (ps : List Str) (n : Nat) (ks : List Str) (idx : List Nat) : Prop := ∀ (kV doc pm : Value) (an : Option Addr) (cdv ct : Value) (us ws : List Value), us.length = n → ws.length = ks.length →
  bindArgs (PySem.W.fnOf d.name d.qual d.params d.body d.scope .none kV doc pm an cdv ct) ⟨us, ks.zip ws⟩ = pure (ps.zip (pick idx (us ++ ws)))
theorem run_G {pins : List (Addr × Obj)} {σ : L2.St} {s : Shared} {Q : VK} {us ws : List Value} {vs zs : List V} {l m : List D} {w : Wd} (C : Cll X.prog X.w X.K X.mg X.base j d ps F) (hj : j ≤ k) (hr : Room k X.A) (hg : X.A.guards = some []) (hb : Bnd d ps n ks idx)
    (hlen : ∀ l : List D, l.length = n + ks.length → (pick idx l).length = ps.length)
    (I : Inv X pins σ w.H s) (ok : w.Ok (sg X)) (r : Vals vs us) (rz : Vals zs ws) (il : IsAll X.K w l vs) (im : IsAll X.K w m zs) (h1 : l.length = n) (h2 : m.length = ks.length) (h : PostG (sg X) (Is X.K) w E ((F (pick idx (l ++ m)) w.M).nx) Q) :
    wpAny (model X.prog X.w) X.A (call (.ref (He.ga X.K d.name)) us (ks.zip ws)) (EP X pins σ Q) X.xe s := by
  obtain ⟨fd, FD, G⟩ := C.ex
  have G := G.mono hj
  have u1 : us.length = n := by rw [← r.length, il.length, h1]
  have u2 : ws.length = ks.length := by rw [← rz.length, im.length, h2]
  have bnd : BindsTo s fd ⟨us, ks.zip ws⟩ (ps.zip (pick idx (us ++ ws))) := by
    obtain ⟨oc, od, dV, kV, doc, pm, an, cdv, ct, osl, rfl, lk, hcd, hD, hK⟩ := FD.ex
    rcases hD with ⟨_, rfl⟩ | ⟨e, _⟩
    · exact .of_eq (hb kV doc pm an cdv ct us ws u1 u2)
    · exact absurd rfl e
  have h0 : PostG (sg X) (Is X.K) w E0 (F (pick idx (l ++ m)) w.M) Q := by
    cases q : F (pick idx (l ++ m)) w.M with
    | ok a M => rw [q] at h; exact h
    | exc C fs M => rw [q] at h; exact h.elim
    | bad => rw [q] at h; exact h.elim
  refine wpAny_call (codeAny_mono (G.run X.A X.stack s w.H ⟨us, ks.zip ws⟩ (pick idx (us ++ ws)) (pick idx (vs ++ zs)) Q E0 hg hr I.env0 bnd (Vals.pick (r.append rz) idx) ⟨w, _, rfl, ok, IsAll.pick (il.append im) idx, hlen _ (by rw [List.length_append, h1, h2]), h0⟩) fun r s' hq => ?_)
  cases r with
  | error e => exact False.elim hq
  | ok fl =>
    cases fl with
    | ret u => exact I.after hq
    | next => exact False.elim hq
    | brk => exact False.elim hq
    | cont => exact False.elim hq
/-- the calls: the arguments' number is checked -/
@[simp] def eF (n m : Nat) (idx : List Nat) (F : Fk) (ga gk : Fa) : Fe := fun env M => (ga env M).bind fun l M1 => (gk env M1).bind fun z M2 => if l.length = n ∧ z.length = m then (F (pick idx (l ++ z)) M2).nx else .bad
abbrev tK (G : Sg) (E : XK) (f : Fa) : TA := tA G E f
theorem dk_nil : PK X [] (tA (sg X) E aN) := ⟨fun pos pins s σ H Q I h => pk_nil.run pos pins s σ H Q I (an_weak σ H Q h)⟩
theorem dk_cons {nm : Option Str} {kpos : Pos} {fe : Fe} (ha : PE X e (tE (sg X) E fe)) (hr : PK X kws (tA (sg X) E gk)) : PK X (⟨nm, e, kpos⟩ :: kws) (tA (sg X) E (aC fe gk)) := ⟨fun pos pins s σ H Q I h => (pk_cons ha hr).run pos pins s σ H Q I (ac_weak σ H Q h)⟩
theorem keep_of (C : Cll X.prog X.w X.K X.mg X.base j d ps F) : PySem.W.keepIn X.K (.ref (He.ga X.K d.name)) = true := let ⟨_, F, _⟩ := C.ex; F.kp
theorem de_call {x : Str} (C : Cll X.prog X.w X.K X.mg X.base j d ps F) (hj : j ≤ k) (hr : Room k X.A) (hg : X.A.guards = some []) (hx : d.name = x) (hgl : Gl X x) (hb : Bnd d ps n [] idx) (hlen : ∀ l : List D, l.length = n + 0 → (pick idx l).length = ps.length)
    (ha : PA X (e :: es) (tA (sg X) E ga)) (hdb : (x == ("__debug__" : Str)) = false := by decide) (he : starEach (e :: es) X.env = (false, eval e X.env) :: starEach es X.env := by rfl) (hpl : (backTo pos (starEach es X.env)).any (·.1) = false := by rfl) :
    PE X (.Call (.Name x p) (e :: es) [] pos) (tE (sg X) E (eF n 0 idx F ga aN)) := by
  subst hx
  refine ⟨fun pins s σ H Q I h => ?_⟩
  obtain ⟨w, env, rfl, ok, en, h⟩ := h
  refine wpAny_Call_Name_kw (ld_glob I hgl C.mg ?_ hdb)
  refine PySem.W.callWith_K (h₀ := X.base) I.ok.mod.kin (keep_of C) (thn (ha.run pos pins s σ w.H _ I ⟨w, env, rfl, ok, en, PostG.bind (I := IsAll X.K) h⟩) fun us s1 ⟨vs, H1, I1, r, w1, l, e1, ok1, f1, _, i1, h1⟩ => ⟨I1.kIn, ?_⟩) he hpl
  subst e1
  have h1 : PostG (sg X) (Is X.K) w1 E (if l.length = n ∧ ([] : List D).length = 0 then (F (pick idx (l ++ [])) w1.M).nx else .bad) Q := h1
  split at h1
  · rename_i hc
    exact run_G (ks := []) (ws := []) (zs := []) (m := []) C hj hr hg hb hlen I1 ok1 r .nil i1 .nil hc.1 rfl h1
  · exact h1.elim
theorem de_callK {x : Str} (C : Cll X.prog X.w X.K X.mg X.base j d ps F) (hj : j ≤ k) (hr : Room k X.A) (hg : X.A.guards = some []) (hx : d.name = x) (hgl : Gl X x) (hb : Bnd d ps n ks idx) (hlen : ∀ l : List D, l.length = n + ks.length → (pick idx l).length = ps.length)
    (ha : PA X (e :: es) (tA (sg X) E ga)) (hkw : PK X kws (tA (sg X) E gk)) (hall : (backToKw pos (keywordEach kws X.env)).all (·.1.isSome) = true := by rfl) (hks : (backToKw pos (keywordEach kws X.env)).filterMap (·.1) = ks := by rfl)
    (hdb : (x == ("__debug__" : Str)) = false := by decide) (he : starEach (e :: es) X.env = (false, eval e X.env) :: starEach es X.env := by rfl)
    (hpl : ((backTo pos (starEach (e :: es) X.env)).any (·.1) || (backToKw pos (keywordEach kws X.env)).any (·.1.isNone)) = false := by rfl) :
    PE X (.Call (.Name x p) (e :: es) kws pos) (tE (sg X) E (eF n ks.length idx F ga gk)) := by
  subst hx
  refine ⟨fun pins s σ H Q I h => ?_⟩
  obtain ⟨w, env, rfl, ok, en, h⟩ := h
  refine wpAny_Call_Name_kw (ld_glob I hgl C.mg ?_ hdb)
  refine PySem.W.callWith_KW (h₀ := X.base) I.ok.mod.kin (keep_of C) hall (thn (ha.run pos pins s σ w.H _ I ⟨w, env, rfl, ok, en, PostG.bind (I := IsAll X.K) h⟩) fun us s1 ⟨vs, H1, I1, r, w1, l, e1, ok1, f1, _, i1, h1⟩ => ?_) hpl he
  subst e1
  refine thn (hkw.run pos pins s1 σ w1.H _ I1 ⟨w1, env, rfl, ok1, en.mono ok f1.toFut0, PostG.bind (I := IsAll X.K) h1⟩) fun ws s2 ⟨zs, H2, I2, rz, w2, m, e2, ok2, f2, _, i2, h2⟩ => ⟨I2.kIn, ?_⟩
  subst e2
  rw [hks]
  split at h2
  · rename_i hc
    exact run_G C hj hr hg hb hlen I2 ok2 r rz (i1.mono ok1 f2.toFut0) i2 hc.1 hc.2 h2
  · exact h2.elim
theorem de_callK0 {x : Str} (C : Cll X.prog X.w X.K X.mg X.base j d ps F) (hj : j ≤ k) (hr : Room k X.A) (hg : X.A.guards = some []) (hx : d.name = x) (hgl : Gl X x) (hb : Bnd d ps 0 ks idx) (hlen : ∀ l : List D, l.length = 0 + ks.length → (pick idx l).length = ps.length)
    (hkw : PK X kws (tA (sg X) E gk)) (hall : (backToKw pos (keywordEach kws X.env)).all (·.1.isSome) = true := by rfl) (hks : (backToKw pos (keywordEach kws X.env)).filterMap (·.1) = ks := by rfl)
    (hdb : (x == ("__debug__" : Str)) = false := by decide)
    (hpl : ((backTo pos (starEach [] X.env)).any (·.1) || (backToKw pos (keywordEach kws X.env)).any (·.1.isNone)) = false := by rfl) :
    PE X (.Call (.Name x p) [] kws pos) (tE (sg X) E (eF 0 ks.length idx F aN gk)) := by
  subst hx
  refine ⟨fun pins s σ H Q I h => ?_⟩
  obtain ⟨w, env, rfl, ok, en, h⟩ := h
  refine wpAny_Call_Name_kw (ld_glob I hgl C.mg ?_ hdb)
  have h : PostG (sg X) (Is X.K) w E ((gk env w.M).bind fun z M2 => if ([] : List D).length = 0 ∧ z.length = ks.length then (F (pick idx ([] ++ z)) M2).nx else .bad) Q := h
  refine PySem.W.callWith_KW0 (h₀ := X.base) I.ok.mod.kin (keep_of C) hall (thn (hkw.run pos pins s σ w.H _ I ⟨w, env, rfl, ok, en, PostG.bind (I := IsAll X.K) h⟩) fun ws s2 ⟨zs, H2, I2, rz, w2, m, e2, ok2, f2, _, i2, h2⟩ => ⟨I2.kIn, ?_⟩) hpl
  subst e2
  rw [hks]
  split at h2
  · rename_i hc
    exact run_G (us := []) (vs := []) (l := []) C hj hr hg hb hlen I2 ok2 .nil rz .nil i2 rfl hc.2 h2
  · exact h2.elim
end
end Dl

set_option maxHeartbeats 1000000
/-! The data layer, part Q: the walk of a dict's keys; the law's end. -/
namespace Dl
open PySem PySem.Spec PyProof.Rows L2

section
variable {G : Sg} {w : Wd}
/-- a dict is locked: it never changes from now on -/
def Wd.lock (w : Wd) (n : Nat) (l : List (NestedKey × D)) (u : HO) : Wd := ⟨w.rhW, fun a => w.F a ∨ a = w.rhW n, w.M.set n (some (.lck l)), upd w.H (w.rhW n) u⟩
theorem Wd.Ok.lock (ok : w.Ok G) {n : Nat} {l : List (NestedKey × D)} (hm : w.M[n]? = some (some (.dic l))) {xs : RawE} {o : Obj} (hx : w.H (w.rhW n) = some (dicO G.P G.W (w.rhW n) xs)) (hs : (w.rhW n == sysModules) = false) (hd : DicIs G.K w l xs) :
    Fut w (w.lock n l (.frz o (dicO G.P G.W (w.rhW n) xs))) ∧ (w.lock n l (.frz o (dicO G.P G.W (w.rhW n) xs))).Ok G := by
  have hl := lt_of_some hm
  obtain ⟨xs', _, _, hnd, hle, _⟩ := (ok.obj n _ hm).1
  generalize hu : HO.frz o (dicO G.P G.W (w.rhW n) xs) = u
  have f : Fut w (w.lock n l u) := by
    refine ⟨⟨fun _ _ => rfl, by simp [Wd.lock], fun a h => .inl h, fun a s => upd_ne (fun e => s.2 n _ hm rfl e.symm), fun m h => ?_, fun m l' h => ?_⟩, fun m h1 h2 => ?_, fun a h => h.elim .inl fun e => .inr fun s => s.2 n _ hm rfl e.symm⟩
    · show (w.M.set n (some (.lck l)))[m]? = some none
      rw [List.getElem?_set_ne (fun e => by subst e; rw [hm] at h; cases h)]; exact h
    · show (w.M.set n (some (.lck l)))[m]? = some (some (.lck l'))
      rw [List.getElem?_set_ne (fun e => by subst e; rw [hm] at h; cases h)]; exact h
    · have : m < w.M.length := by simpa [Wd.lock] using h2
      exact absurd this (Nat.not_lt.mpr h1)
  have len : (w.lock n l u).M.length = w.M.length := by simp [Wd.lock]
  refine ⟨f, fun a b ha hb e => ok.inj a b (by rw [← len]; exact ha) (by rw [← len]; exact hb) e, fun m hm' => ?_, fun m o2 hm' => ?_, fun a h => ?_⟩
  · show upd w.H (w.rhW n) u (w.rhW m) ≠ none
    by_cases e : w.rhW m = w.rhW n
    · rw [e, upd_same]; exact fun z => nomatch z
    · rw [upd_ne e]; exact ok.here m (by rw [← len]; exact hm')
  · by_cases e : n = m
    · subst e
      have : o2 = .lck l := by
        have h2 : (w.M.set n (some (.lck l)))[n]? = some (some o2) := hm'
        rw [List.getElem?_set_self hl] at h2
        exact (Option.some.inj (Option.some.inj h2)).symm
      subst this
      exact ⟨⟨o, xs, by subst hu; exact upd_same, hs, hnd, hle, hd.mono ok f.toFut0⟩, ⟨fun _ => rfl, fun _ => .inr rfl⟩⟩
    · have h2 : w.M[m]? = some (some o2) := by
        have h3 : (w.M.set n (some (.lck l)))[m]? = some (some o2) := hm'
        rw [List.getElem?_set_ne e] at h3; exact h3
      obtain ⟨h3, h4⟩ := ok.obj m o2 h2
      have hne : w.rhW m ≠ w.rhW n := fun q => e (ok.inj m n (lt_of_some h2) hl q).symm
      exact ⟨h3.mono ok f.toFut0 (upd_ne hne), ⟨fun z => z.elim h4.mp fun e => absurd e hne, fun z => .inl (h4.mpr z)⟩⟩
  · show upd w.H (w.rhW n) u a ≠ none
    by_cases e : a = w.rhW n
    · rw [e, upd_same]; exact fun z => nomatch z
    · rw [upd_ne e]; exact ok.frz a (h.resolve_right e)
end
section
variable {X : Cx} {E : XK} {a b e : Expr} {fa fb fe : Fe} {pos : Pos} {st : Stmt} {f : Fs} {pins : List (Addr × Obj)} {σ : L2.St} {H : Hp} {s : Shared}
theorem ps_lockN {t : TS} (h : PS X st t) : PS X st (fun D σ H => ∃ a u, H a = some u ∧ Mut (some u) ∧ ∀ o, t D σ (upd H a (.frz o u))) := ⟨fun pins s σ H D I q => by
  obtain ⟨a, u, e, mu, q⟩ := q
  obtain ⟨o, I1⟩ := I.lock e mu
  exact h.run pins s σ _ D I1 (q o)⟩
/-- the dict in slot i is locked ahead of the statement (a ghost's step) -/
@[simp] def fLck (i : Nat) (f : Fs) : Fs := fun env M => match env[i]? with
  | some (some (.adr n)) => (match M[n]? with
    | some (some (.dic l)) => f env (M.set n (some (.lck l)))
    | _ => .bad)
  | _ => .bad
theorem ds_lck (i : Nat) (h : PS X st (tS (sg X) E f)) : PS X st (tS (sg X) E (fLck i f)) := (ps_lockN h).weak fun D σ H h => by
  obtain ⟨w, env, rfl, ok, en, h⟩ := h
  unfold fLck at h
  split at h
  · rename_i n en1
    split at h
    · rename_i l hm
      obtain ⟨v, _, iv⟩ := en.2 _ _ en1
      obtain ⟨xs, h1, h2, _, _, h5⟩ := (ok.obj _ _ hm).1
      refine ⟨w.rhW n, _, h1, True.intro, fun o => ?_⟩
      obtain ⟨fu, ok2⟩ := ok.lock (o := o) hm h1 h2 h5
      exact ⟨w.lock n l _, env, rfl, ok2, en.mono ok fu.toFut0, PostG.fut h ok2 fu⟩
    · exact h.elim
  · exact h.elim
def ItkN (G : Sg) (a : Addr) (o : Obj) (xs : RawE) : It :=
  ⟨fun i H => H a = some (.frz o (dicO G.P G.W a xs)) ∧ i < xs.length, fun i H x H' => H' = H ∧ ∃ y, xs[i]? = some y ∧ x = .ref y.2.1, fun i H => H a = some (.frz o (dicO G.P G.W a xs)) ∧ xs.length ≤ i⟩
theorem frzN {a : Addr} {o : Obj} {xs : RawE} (I : Inv X pins σ H s) (h : H a = some (.frz o (dicO X.prog X.w a xs))) : s.heap.get? a = some o ∧ o.ExactDict ∧ ∃ es ep, o.data = .dict es ep ∧ es.size = xs.length ∧ ∀ (i : Nat) (y : NestedKey × Addr × Value), xs[i]? = some y → ∃ en : DictEntry, es[i]? = some en ∧ en.key = .ref y.2.1 := by
  obtain ⟨hd, o', es, ep, h1, h2, h3, h4⟩ := (show s.heap.get? a = some o ∧ RawT X.prog X.w a xs s.heap from ⟨(I.hok a _ h).1, (I.hok a _ h).2.1⟩)
  rw [hd] at h1
  cases h1
  refine ⟨hd, h2, es, ep, h3, by rw [← Array.length_toList, h4, List.length_map], fun i y e => ?_⟩
  have z : es[i]? = (xs[i]?).map (entryOfKey (nestedKind X.prog X.w)) := entry_at h4 i
  rw [e] at z
  exact ⟨_, z, rfl⟩
theorem turn_keysN {P : Program} {w : World} {K : PySem.W.Frag} {tg : Expr} {d : Addr} {o : Obj} {es : Array DictEntry} {ep : Nat} {xs : RawE} (it : Addr) (hod : o.data = .dict es ep) : Turn P w K tg (ItkN ⟨K, P, w⟩ d o xs) [it] it (fun i h => h.IsKeyIter it d i xs.length ep) where
  mem := by simp
  obj := fun i h st b hb => by
    have e : b = it := by simpa using hb
    subst e
    obtain ⟨oi, e, c, dd⟩ := st
    exact ⟨oi, e, fun v z => by rw [dd] at z; cases z⟩
  keep := fun i h h' st k => st.at fun oi e => k it (by simp) oi e
  item := by
    intro X hP hw hK hc i pins s σ H E I hf st hg
    subst hP hw hK
    obtain ⟨hd, hi⟩ := hg
    obtain ⟨f0, f1, f2, f3, f4, f5⟩ := hf it (by simp)
    obtain ⟨hgd, hx, es', ep', hdt, hsz, ent⟩ := frzN I hd
    obtain ⟨rfl, rfl⟩ := dict_ep hod hdt
    obtain ⟨y, hy⟩ : ∃ p, xs[i]? = some p := ⟨xs[i], List.getElem?_eq_getElem hi⟩
    obtain ⟨en, hen, hkey⟩ := ent i y hy
    refine next_key_item st hgd hdt hsz hen fun h' st' sb => ?_
    have I1 : Inv X pins σ H { s with heap := h' } := I.turned (t' := s.toks) (fun b ob hb e => (sb.2 b hb).trans e) f0 f1 f3 f4 f5
    obtain ⟨oi, e, c, dd⟩ := id st'
    exact ⟨en.key, rfl, go_of (s := { s with heap := h' }) e c dd (by decide) ⟨.ref y.2.1, H, I1, hkey, ⟨rfl, y, hy, rfl⟩, st', fun b hb => (hf b hb).1⟩⟩
  done := by
    intro X hP hw hK hc i pins s σ H E I hf st hg
    subst hP hw hK
    obtain ⟨hd, hi⟩ := hg
    obtain ⟨f0, f1, f2, f3, f4, f5⟩ := hf it (by simp)
    obtain ⟨hgd, hx, es', ep', hdt, hsz, ent⟩ := frzN I hd
    obtain ⟨rfl, rfl⟩ := dict_ep hod hdt
    exact next_key_end (I.ok.hd hc) st hgd hdt hsz hi fun h' eb => ⟨rfl, I.turned (t' := s.toks) (fun b ob hb e => eb b ob hb e) f0 f1 f3 f4 f5⟩
  self := fun A i s Q E st h => by
    refine wpAny_pyIter_slot st.typeIs F.slot_dict_keyiterator_iter (wpAny_call_entry F.slot_dict_keyiterator_iter st.typeIs F.entry_dict_keyiterator_iter ?_ (F.args_dict_keyiterator_iter_1 _))
    show wpAny _ _ (ret (.ref it)) _ _ s
    exact wpAny_pure ⟨_, rfl, "dict_keyiterator", _, st.typeIs, F.slot_dict_keyiterator_next.lookup, h⟩
def iKeysN (G : Sg) (td : TE) : TI := fun σ H R => td σ H fun x H1 => ∃ d o xs, x = .ref d ∧ (d == sysModules) = false ∧ H1 d = some (.frz o (dicO G.P G.W d xs)) ∧ R (ItkN G d o xs) H1
theorem pi_keysN {tg : Expr} {td : TE} (he : PE X e td) : PI X tg e (iKeysN (sg X) td) := by
  refine ⟨fun pins s σ H R I h => ?_⟩
  refine thn (he.run pins s σ H _ I h) fun u s1 ⟨x, H1, I1, rx, d, o, xs, ex, hs, hd, q⟩ => ?_
  subst ex
  obtain rfl : u = Value.ref d := rx
  obtain ⟨hgd, hx, es, ep, hdt, hsz, ent⟩ := frzN I1 hd
  refine iter_keys hs hgd hx hdt (pi_one (tk := s1.toks) I1 _ (turn_keysN _ hdt) ⟨_, Heap.get?_push_size _ rfl, rfl, ?_⟩ q)
  rw [hsz] <;> rfl
def fKeys (f : Fe) : Fi := fun env M => (f env M).bind fun d M1 => match d with
  | .adr n => (match M1[n]? with
    | some (some (.lck l)) => .ok (l.map fun y => kD y.1, []) M1
    | _ => .bad)
  | _ => .bad
theorem dic_get {K : PySem.W.Frag} {w : Wd} {l : List (NestedKey × D)} {xs : RawE} (h : DicIs K w l xs) : ∀ (i : Nat) (d : D), (l.map fun y => kD y.1)[i]? = some d → ∃ y, xs[i]? = some y ∧ d = kD y.1 ∧ KeyAt w.H y.1 (.ref y.2.1) := by
  induction h with
  | nil => intro i d e; simp at e
  | @cons k d b u v l xs h1 h2 h3 h4 _ ih =>
    intro i d e
    cases i with
    | zero => simp at e; exact ⟨_, rfl, e.symm, h1⟩
    | succ i => exact ih i d (by simpa using e)
theorem di_keys {tg : Expr} (he : PE X e (tE (sg X) E fe)) : PI X tg e (tIt (sg X) E (fKeys fe)) := (pi_keysN he).weak fun σ H Q h => by
  obtain ⟨w, env, rfl, ok, en, h⟩ := h
  refine ⟨w, env, rfl, ok, en, (PostG.bind (I := Is X.K) h).imp ?_⟩
  rintro b _ ⟨w1, d, rfl, ok1, f1, _, i1, h1⟩
  split at h1
  · rename_i n _
    split at h1
    · rename_i l hm
      cases i1 with
      | adr hn =>
        obtain ⟨⟨o, xs, h2, h3, h4, h5, h6⟩, hF⟩ := ok1.obj _ _ hm
        have st : Still w1 (w1.rhW n) := ok1.still_frz (hF.mpr rfl) (ok1.here _ hn)
        refine ⟨_, o, xs, rfl, h3, h2, PostG.now h1 ok1 ⟨fun i d w2 ok2 f2 _ e => ?_, fun i w2 ok2 f2 _ hl => ?_, by simpa using h5⟩⟩
        · obtain ⟨y, h7, rfl, h8⟩ := dic_get h6 i d e
          refine ⟨⟨by rw [f2.same _ st]; exact h2, lt_of_some h7⟩, fun x H' hy => ?_⟩
          obtain ⟨rfl, y', h9, rfl⟩ := hy
          rw [h7] at h9
          cases h9
          exact ⟨w2, ok2, Fut.refl w2, rfl, rfl, kD_is (h8.mono ok1 f2.toFut0)⟩
        · exact ⟨by rw [f2.same _ st]; exact h2, by rw [dic_len h6]; simpa using hl⟩
    · exact h1.elim
  · exact h1.elim
end

/-! ### the law's end -/
theorem law_callG {P : Program} {w : World} {K : PySem.W.Frag} {mg mb : Str → Option Value} {k : Nat} {fa a : Addr} {fd : FuncData} {x : Str} {sp : Sp} {s₁ : Shared} {vs : List Value} {ns : List Int}
    (KX : K.In s₁.heap) (hns : s₁.heap.Ns mainGlobals mg) (hb : s₁.heap.Ns builtinsNs mb) (hbb : ∀ x : Str, x ≠ "__name__" → mb x = bootBuiltins x) (hlim : s₁.heap.NoLimit) (hg : s₁.gens = #[])
    (ha : s₁.heap.get? a = some { cls := .type "list", data := .seq vs.toArray }) (hi : IntsAre vs ns) (hl : ns.length ≤ sizeLine) (hr : Room k callerA)
    (F : ∀ base : Heap, K.In base → base.Ns mainGlobals mg → FnG P w K mg base k fa fd [x] sp) (hbind : ∀ (s : Shared) (u : Value), BindsTo s fd ⟨[u], []⟩ [(x, u)])
    (hsp : ∀ H : Hp, Only H → SqL K H a (ns.map V.int) → sp [.ref a] H (fun v _ => v = .bl true) fun _ _ _ => False) :
    codeAny (model P w) callerA (.call (.ref fa) ⟨[.ref a], []⟩) (fun r s' => r = .ok (.ret (.bool true)) ∧ OldK s₁.heap s'.heap ∧ s'.os = s₁.os ∧ AllBare s'.gens) s₁ := by
  have rv := vals_ints hi
  have lenV := hi.length
  have core : ∀ H : Hp, Only H → SqL K H a (ns.map V.int) → HOk P w H s₁.heap → (∀ b, H b ≠ none → b = a) → (H a ≠ none → K.lookup a = none) →
      codeAny (model P w) callerA (.call (.ref fa) ⟨[.ref a], []⟩) (fun r s' => r = .ok (.ret (.bool true)) ∧ OldK s₁.heap s'.heap ∧ s'.os = s₁.os ∧ AllBare s'.gens) s₁ := by
    intro H hO hS hok hA hK
    have base_of : ∀ {b : Addr} {o : Obj}, s₁.heap.get? b = some o → H b = none → (hidT s₁.heap H).get? b = some o := fun e n => hidT_get e n
    have noA : ∀ {b : Addr} {o : Obj} {es : Array DictEntry} {ep : Nat}, s₁.heap.get? b = some o → o.data = .dict es ep → H b = none := fun {b o es ep} e d => by
      cases q : H b with
      | none => rfl
      | some u =>
        have e' : b = a := hA b (by rw [q]; simp)
        subst e'
        rw [ha] at e; cases e
        have d' : Data.seq vs.toArray _ = Data.dict es ep := d
        cases d'
    have nsK : ∀ {b : Addr} {m : Str → Option Value}, s₁.heap.Ns b m → (hidT s₁.heap H).Ns b m := fun {b m} ⟨o, es, ep, e, d, r⟩ => ⟨o, es, ep, base_of e (noA e d), d, r⟩
    have hKb : K.In (hidT s₁.heap H) := fun b o e => base_of (KX b o e) (by
      cases q : H b with
      | none => rfl
      | some u =>
        have e' : b = a := hA b (by rw [q]; simp)
        subst e'
        rw [hK (by rw [q]; simp)] at e; cases e)
    have hM : Mod K mg (hidT s₁.heap H) := ⟨hKb, nsK hns, ⟨mb, nsK hb, hbb⟩, let ⟨mc, h1, h2⟩ := hlim; ⟨mc, nsK h1, h2⟩⟩
    have e0 : Env0 P w K mg (hidT s₁.heap H) callerA [] s₁ H := ⟨rfl, hM, fun b o e => of_hidT e, Nat.le_of_eq (hidT_size _ _), trivial, fun b hb => absurd (show b ∈ ([] : List Addr) from hb) (by simp), hok, .of_eq hg⟩
    refine codeAny_mono ((F _ hKb (nsK hns)).run callerA [] s₁ H ⟨[.ref a], []⟩ [.ref a] [.ref a] _ _ rfl hr e0 (hbind s₁ (.ref a)) (.cons rfl .nil) (hsp H hO hS)) fun r s' h => ?_
    cases r with
    | error e => exact False.elim h
    | ok fl =>
      cases fl with
      | next => exact False.elim h
      | brk => exact False.elim h
      | cont => exact False.elim h
      | ret u =>
        obtain ⟨v, H', os, bare, un, hok', r', q⟩ := h
        have q' : v = .bl true := q
        subst q'
        obtain rfl : u = Value.bool true := r'
        refine ⟨rfl, OldK.of_keep fun b o e => ?_, os, bare⟩
        cases q : H b with
        | none => exact un.keep b o e q (by intro z; exact absurd (show b ∈ ([] : List Addr) from z) (by simp)) (by simp)
        | some u =>
          rcases hO b with z | ⟨ob, xs, z⟩
          · rw [q] at z; cases z
          · have z2 := un.frzs b ob _ z
            obtain ⟨e1, _⟩ := hok b _ z
            obtain ⟨e2, _⟩ := hok' b _ z2
            rw [e] at e1; cases e1
            exact e2
  cases hk : K.lookup a with
  | some o =>
    have e := KX a o hk
    rw [ha] at e
    cases e
    refine core (fun _ => none) (fun _ => .inl rfl) (.inr ⟨_, vs.toArray, _, hk, rfl, rfl, rfl, by rw [List.size_toArray, lenV]; exact hl, by simpa using rv⟩) (fun b u z => by have z' : (none : Option HO) = some u := z; cases z') (fun b z => absurd rfl z) fun z => absurd rfl z
  | none =>
    refine core (fun b => if b = a then some (.frz { cls := .type "list", data := .seq vs.toArray } (.lst (ns.map V.int))) else none) (fun b => ?_) (.inl (.inr ⟨{ cls := .type "list", data := .seq vs.toArray }, if_pos rfl⟩)) (fun b u z => ?_) (fun b z => ?_) fun _ => hk
    · by_cases hb : b = a
      · exact .inr ⟨_, _, if_pos hb⟩
      · exact .inl (if_neg hb)
    · by_cases hb : b = a
      · have z' := (if_pos hb).symm.trans z
        cases z'
        subst hb
        exact ⟨ha, by rw [List.length_map]; exact hl, vs, _, rv, ha⟩
      · have z' := (if_neg hb).symm.trans z
        cases z'
    · by_cases hb : b = a
      · exact hb
      · exact absurd (if_neg hb) z
theorem walk_G {l : PySem.W.OpenLaw} {n k : Nat} {q : Program} {loose : List Str} {XP : (Str → Option Value) → Heap → Prop} {YP : World → Heap → Prop} {d : DefRec} {x : Str}
    (hn : l.most = some n) (hn2 : n ≤ sizeLine) (hdf : d.params.defaults = []) (hr : Room k callerA)
    (F : ∀ (w : World) (mg : Str → Option Value) (fa : Addr) (h : Heap), YP w h → h.Ns mainGlobals mg → mg d.name = some (.ref fa) →
      ∃ (K : PySem.W.Frag) (fd : FuncData) (sp : Sp), K.In h ∧ (∀ (s : Shared) (u : Value), BindsTo s fd ⟨[u], []⟩ [(x, u)]) ∧
        (∀ (H : Hp) (a : Addr) (ns : List Int), ns.length ≤ n → Only H → SqL K H a (ns.map V.int) → sp [.ref a] H (fun v _ => v = .bl true) fun _ _ _ => False) ∧
        ∀ base : Heap, K.In base → base.Ns mainGlobals mg → FnG l.prog w K mg base k fa fd [x] sp) :
    PySem.W.WalkO q loose XP YP l.row.toRowW d [] (fun f vs => PySem.call f vs) := by
  refine Att.attach_call hn hdf fun w s₀ s₁ mg mb fa o pm cd doc a vs ns G Y ho hd hcd hmg hobj hints hlen hg => ?_
  obtain ⟨K, fd, sp, KX, hb, hsp, hF⟩ := F w mg fa _ Y G.T.g hmg
  exact law_callG KX G.T.g G.T.b G.T.builtins G.T.nolimit hg hobj hints (Nat.le_trans hlen hn2) hr hF hb (fun H hO hS => hsp H a ns hlen hO hS)
/-- the law's own promise, from its mirror at every script -/
theorem law_sp {K : PySem.W.Frag} {P : Program} {w : World} {F : Fk} {n : Nat} (h : ∀ ns : List Int, ns.length ≤ n → ∃ M, F [.scr ns] [] = .ok (.bl true) M) (H : Hp) (a : Addr) (ns : List Int) (hl : ns.length ≤ n) (hO : Only H) (hS : SqL K H a (ns.map V.int)) :
    spF ⟨K, P, w⟩ 1 F [.ref a] H (fun v _ => v = .bl true) fun _ _ _ => False := by
  obtain ⟨M, e⟩ := h ns hl
  have fin : ∀ W : Wd, W.H = H → W.M = [] → W.Ok ⟨K, P, w⟩ → Is K W (.scr ns) (.ref a) → spF ⟨K, P, w⟩ 1 F [.ref a] H (fun v _ => v = .bl true) fun _ _ _ => False := fun W e1 e2 ok i => by
    refine ⟨W, [.scr ns], e1, ok, .cons i .nil, rfl, ?_⟩
    rw [e2, e]
    intro w' v ok' f _ i
    cases i; rfl
  by_cases hz : H a = none
  · refine fin ⟨fun _ => 0, fun _ => False, [], H⟩ rfl rfl ⟨fun m n h => absurd h (by simp), fun m h => absurd h (by simp), fun m o h => by simp at h, fun b h => h.elim⟩ (.scr (.inr fun H' => ?_))
    rcases hS with h | h
    · rcases h with h | ⟨o, h⟩ <;> rw [hz] at h <;> cases h
    · exact .inr h
  · exact fin ⟨fun _ => 0, fun b => b = a, [], H⟩ rfl rfl ⟨fun m n h => absurd h (by simp), fun m h => absurd h (by simp), fun m o h => by simp at h, fun b h => by rw [h]; exact hz⟩ (.scr (.inl ⟨rfl, hS, hz⟩))
end Dl

set_option maxHeartbeats 1000000
/-! The data layer, part R: rules that choose by what stands there. -/
namespace Dl
open PySem PySem.Spec PyProof.Rows L2
section
variable {X : Cx} {E : XK} {a b e : Expr} {es : List Expr} {fa fb fe : Fe} {ga : Fa} {pos p : Pos}
theorem Op2.or {r1 r2 : R2} {k k1 k2 : D → D → Mem → Res D} (h1 : Op2 X E r1 k1) (h2 : Op2 X E r2 k2) (h : ∀ x y M, k x y M = k1 x y M ∨ k x y M = k2 x y M) : Op2 X E (fun x y H Q => r1 x y H Q ∨ r2 x y H Q) k := fun w x y vx vy Q ok ix iy q => by
  rcases h x y w.M with e | e
  · rw [e] at q; exact .inl (h1 w x y vx vy Q ok ix iy q)
  · rw [e] at q; exact .inr (h2 w x y vx vy Q ok ix iy q)
theorem PE.orE {e : Expr} {t t' : TE} (h : PE X e t) (h' : PE X e t') : PE X e (fun σ H Q => t σ H Q ∨ t' σ H Q) := ⟨fun pins s σ H Q I q => q.elim (h.run pins s σ H Q I) (h'.run pins s σ H Q I)⟩
theorem PI.orI {tg e : Expr} {t t' : TI} (h : PI X tg e t) (h' : PI X tg e t') : PI X tg e (fun σ H Q => t σ H Q ∨ t' σ H Q) := ⟨fun pins s σ H Q I q => q.elim (h.run pins s σ H Q I) (h'.run pins s σ H Q I)⟩
/-- what follows on f is g1 or g2, by what f gives -/
theorem tG_or {α β γ : Type} {G : Sg} {I : Wd → α → β → Prop} {f : Env → Mem → Res γ} {g g1 g2 : γ → Mem → Res α} (h : ∀ d M, g d M = g1 d M ∨ g d M = g2 d M) : ∀ σ H Q, tG G E I (fun env M => (f env M).bind g) σ H Q → tG G E I (fun env M => (f env M).bind g1) σ H Q ∨ tG G E I (fun env M => (f env M).bind g2) σ H Q := fun σ H Q q => by
  obtain ⟨w, env, e0, ok, en, q⟩ := q
  dsimp only at q
  cases e : f env w.M with
  | bad => rw [e] at q; exact q.elim
  | exc C fs M => rw [e] at q; exact .inl ⟨w, env, e0, ok, en, by dsimp only; rw [e]; exact q⟩
  | ok d M =>
    rw [e] at q
    rcases h d M with z | z
    · exact .inl ⟨w, env, e0, ok, en, by dsimp only; rw [e]; simp only [bind_ok] at q ⊢; rw [← z]; exact q⟩
    · exact .inr ⟨w, env, e0, ok, en, by dsimp only; rw [e]; simp only [bind_ok] at q ⊢; rw [← z]; exact q⟩
theorem tL_or {γ : Type} {G : Sg} {f : Env → Mem → Res γ} {g g1 g2 : γ → Mem → Res (List D)} (h : ∀ d M, g d M = g1 d M ∨ g d M = g2 d M) : ∀ σ H Q, tL G E (fun env M => (f env M).bind g) σ H Q → tL G E (fun env M => (f env M).bind g1) σ H Q ∨ tL G E (fun env M => (f env M).bind g2) σ H Q := fun σ H Q q => by
  obtain ⟨w, env, e0, ok, en, q⟩ := q
  dsimp only at q
  cases e : f env w.M with
  | bad => rw [e] at q; exact q.elim
  | exc C fs M => rw [e] at q; exact .inl ⟨w, env, e0, ok, en, by dsimp only; rw [e]; exact q⟩
  | ok d M =>
    rw [e] at q
    rcases h d M with z | z
    · exact .inl ⟨w, env, e0, ok, en, by dsimp only; rw [e]; simp only [bind_ok] at q ⊢; rw [← z]; exact q⟩
    · exact .inr ⟨w, env, e0, ok, en, by dsimp only; rw [e]; simp only [bind_ok] at q ⊢; rw [← z]; exact q⟩
/-- * -/
@[simp] def kMulA (x y : D) (M : Mem) : Res D := match asL M x with
  | some _ => kRep x y M
  | none => kMul x y M
theorem de_mulA (ha : PE X a (tE (sg X) E fa)) (hb : PE X b (tE (sg X) E fb)) : PE X (.BinOp a .Mult b pos) (tE (sg X) E (e2 kMulA fa fb)) := de_op (OpR.or op_rep op_mul) (Op2.or o_rep (o_int cMul_ok fun _ _ _ => .int _) (fun x y M => by
  unfold kMulA
  split
  · exact .inl rfl
  · exact .inr rfl)) ha hb
/-- in, not in -/
def kInA (g : Bool → Bool) (x y : D) (M : Mem) : Res D := match dicAt M y with
  | some _ => kInN g x y M
  | none => kInL g x y M
theorem kInA_or (g : Bool → Bool) (x y : D) (M : Mem) : kInA g x y M = kInN g x y M ∨ kInA g x y M = kInL g x y M := by
  unfold kInA
  split
  · exact .inl rfl
  · exact .inr rfl
theorem op_inA (hu : X.A.units + 65 < cLine) : OpR X (compareOp .In) (fun x y H Q => rInN (sg X) id x y H Q ∨ rInD X.K x y H Q) := OpR.or (op_inN hu) (op_inD hu)
theorem op_notInA (hu : X.A.units + 65 < cLine) : OpR X (compareOp .NotIn) (fun x y H Q => rInN (sg X) (!·) x y H Q ∨ rNotInD X.K x y H Q) := OpR.or (op_notInN hu) (op_notInD hu)
theorem o_inA : Op2 X E (fun x y H Q => rInN (sg X) id x y H Q ∨ rInD X.K x y H Q) (kInA id) := Op2.or (o_inN id) o_inL (kInA_or id)
theorem o_notInA : Op2 X E (fun x y H Q => rInN (sg X) (!·) x y H Q ∨ rNotInD X.K x y H Q) (kInA (!·)) := Op2.or (o_inN _) o_notInL (kInA_or _)
/-- ==, != -/
@[simp] def kSc : D → D → Option Bool
  | .int i, .int j => some (decide (i = j))
  | .str a, .str b => some (decide (a = b))
  | _, _ => none
@[simp] def kEqA (x y : D) (M : Mem) : Res D := match kSc x y with
  | some b => .ok (.bl b) M
  | none => kEq x y M
@[simp] def kNeA (x y : D) (M : Mem) : Res D := match kSc x y with
  | some b => .ok (.bl (!b)) M
  | none => kNe x y M
def kSc1 (g : Bool → Bool) (x y : D) (M : Mem) : Res D := match kSc x y with
  | some b => .ok (.bl (g b)) M
  | none => .bad
theorem sc_is {K : PySem.W.Frag} {w : Wd} {x y : D} {vx vy : V} {b : Bool} (ix : Is K w x vx) (iy : Is K w y vy) (h : kSc x y = some b) : scal vx vy = true ∧ decide (vx = vy) = b := by
  unfold kSc at h
  split at h
  · cases ix; cases iy; cases h; exact ⟨rfl, by simp⟩
  · cases ix; cases iy; cases h; exact ⟨rfl, by simp⟩
  · cases h
theorem o_eqS : Op2 X E rEq (kSc1 id) := fun w x y vx vy Q ok ix iy h => by
  unfold kSc1 at h
  split at h
  · rename_i b hb
    obtain ⟨h1, rfl⟩ := sc_is ix iy hb
    exact ⟨h1, PostG.now h ok (.bl _)⟩
  · exact h.elim
theorem o_neS : Op2 X E rNe (kSc1 (!·)) := fun w x y vx vy Q ok ix iy h => by
  unfold kSc1 at h
  split at h
  · rename_i b hb
    obtain ⟨h1, rfl⟩ := sc_is ix iy hb
    exact ⟨h1, PostG.now h ok (.bl _)⟩
  · exact h.elim
theorem op_eqA (hu : X.A.units + 64 < cLine) : OpR X (compareOp .Eq) (fun x y H Q => rEq x y H Q ∨ rEqD X.K x y H Q) := OpR.or op_eq (op_eqD hu)
theorem op_neA (hu : X.A.units + 64 < cLine) : OpR X (compareOp .NotEq) (fun x y H Q => rNe x y H Q ∨ rNeD X.K x y H Q) := OpR.or op_ne (op_neD hu)
theorem o_eqA : Op2 X E (fun x y H Q => rEq x y H Q ∨ rEqD X.K x y H Q) kEqA := Op2.or o_eqS o_eq fun x y M => by
  unfold kEqA kSc1
  split
  · exact .inl rfl
  · exact .inr rfl
theorem o_neA : Op2 X E (fun x y H Q => rNe x y H Q ∨ rNeD X.K x y H Q) kNeA := Op2.or o_neS o_ne fun x y M => by
  unfold kNeA kSc1
  split
  · exact .inl rfl
  · exact .inr rfl
/-- o[i] -/
@[simp] def kIxA (x y : D) (M : Mem) : Res D := match dicAt M x with
  | some _ => kIxN x y M
  | none => kIx x y M
theorem de_ixA (hu : X.A.units + 65 < cLine) (ha : PE X a (tE (sg X) E fa)) (hb : PE X b (tE (sg X) E fb)) (hs : PlainIx b := by intro _ _; rfl) (hs2 : NoSl b := by intro _ _; rfl) : PE X (.Subscript a b pos) (tE (sg X) E (e2 kIxA fa fb)) := (PE.orE (de_ixN hu ha hb hs2) (de_ix ha hb hs)).weak fun σ H Q q => by
  have q : tG (sg X) E (Is X.K) (fun env M => ((fa env M).bind fun x M1 => (fb env M1).bind fun y M2 => .ok (x, y) M2).bind fun z M => kIxA z.1 z.2 M) σ H Q := by
    obtain ⟨w, env, e0, ok, en, q⟩ := q
    refine ⟨w, env, e0, ok, en, ?_⟩
    dsimp only
    rw [bind_assoc]
    simp only [bind_assoc, bind_ok]
    exact q
  have fin : ∀ k : D → D → Mem → Res D, tG (sg X) E (Is X.K) (fun env M => ((fa env M).bind fun x M1 => (fb env M1).bind fun y M2 => .ok (x, y) M2).bind fun z M => k z.1 z.2 M) σ H Q → tE (sg X) E (e2 k fa fb) σ H Q := fun k q => by
    obtain ⟨w, env, e0, ok, en, q⟩ := q
    refine ⟨w, env, e0, ok, en, ?_⟩
    dsimp only at q
    rw [bind_assoc] at q
    simp only [bind_assoc, bind_ok] at q
    exact q
  exact (tG_or (g1 := fun z M => kIxN z.1 z.2 M) (g2 := fun z M => kIx z.1 z.2 M) (fun d M => by
    unfold kIxA
    split
    · exact .inl rfl
    · exact .inr rfl) σ H Q q).imp (fin _) (fin _)
/-- for x in e -/
@[simp] def itA (d : D) (M : Mem) : Res (List D × List Nat) := match d with
  | .tup l => .ok (l, []) M
  | .adr n => (match M[n]? with
    | some (some (.lck l)) => .ok (l.map fun y => kD y.1, []) M
    | some (some (.lst l)) => .ok (l, [n]) M
    | _ => .bad)
  | d => (match itL M d with
    | some p => .ok p M
    | none => .bad)
@[simp] def fItA (f : Fe) : Fi := fun env M => (f env M).bind itA
theorem di_it {tg : Expr} (ha : PE X a (tE (sg X) E fa)) : PI X tg a (tIt (sg X) E (fItA fa)) := (PI.orI (di_tup ha) (PI.orI (di_keys ha) (di_list ha))).weak fun σ H Q q => by
  have step : ∀ d M, itA d M = (match d with
    | .tup l => .ok (l, []) M
    | _ => .bad) ∨ itA d M = (match d with
      | .adr n => (match M[n]? with
        | some (some (.lck l)) => .ok (l.map fun y => kD y.1, []) M
        | _ => (match itL M d with
          | some p => .ok p M
          | none => .bad))
      | _ => (match itL M d with
        | some p => .ok p M
        | none => .bad)) := fun d M => by
    cases d with
    | tup l => exact .inl rfl
    | adr n =>
      right
      cases hM : M[n]? with
      | none => simp [itA, itL, hM]
      | some o =>
        cases o with
        | none => simp [itA, itL, hM]
        | some o => cases o <;> simp [itA, itL, hM]
    | _ => exact .inr rfl
  refine (tG_or (f := fa) step σ H Q q).imp id fun q => ?_
  refine tG_or (f := fa) (fun d M => ?_) σ H Q q
  cases d with
  | adr n =>
    cases hM : M[n]? with
    | none => exact .inr (by simp [hM, itL])
    | some o =>
      cases o with
      | none => exact .inr (by simp [hM, itL])
      | some o => cases o <;> first | (left; simp [hM, itL]; done) | (right; simp [hM, itL]; done)
  | _ => exact .inr rfl
@[simp] def enA (l : List D) (M : Mem) : Res (List D × List Nat) := match l with
  | [.tup l] => .ok (numD 0 l, []) M
  | [d] => (match itL M d with
    | some p => .ok (numD 0 p.1, p.2) M
    | none => .bad)
  | _ => .bad
@[simp] def fEnumA (g : Fa) : Fi := fun env M => (g env M).bind enA
theorem di_enumA {tpos : Pos} {elts : List Expr} {kk : Nat} (hg : Gl X "enumerate") (hm : X.mg "enumerate" = none) (ha : PA X [a] (tA (sg X) E ga)) (hs : starEach [a] X.env = [(false, eval a X.env)] := by rfl) :
    PI X (.Tuple elts kk tpos) (.Call (.Name "enumerate" p) [a] [] pos) (tIt (sg X) E (fEnumA ga)) := (PI.orI (di_enumT hg hm ha hs) (di_enumL hg hm ha hs)).weak fun σ H Q q => tG_or (f := ga) (fun d M => by
  unfold enA
  split
  · exact .inl rfl
  · exact .inr rfl
  · exact .inl (by split <;> simp_all)) σ H Q q
/-- sorted -/
def soA (l : List D) (M : Mem) : Res (List D) := match l with
  | [d] => (match dicAt M d with
    | some _ => kSortN l M
    | none => kSort l M)
  | _ => .bad
def fSortA (g : Fa) : Fa := fun env M => (g env M).bind soA
theorem dl_sortA {x : Str} (hc : X.calm = true) (hu : X.A.units + 65 < cLine) (hg : Gl X x) (hm : X.mg x = none) (ha : PA X (e :: es) (tA (sg X) E ga)) (hv : bootBuiltins x = some (.builtin "sorted") := by rfl) (hn : x ≠ "__name__" := by decide) (hdb : (x == ("__debug__" : Str)) = false := by decide)
    (he : starEach (e :: es) X.env = (false, eval e X.env) :: starEach es X.env := by rfl) (hpl : (backTo pos (starEach es X.env)).any (·.1) = false := by rfl) : PE X (.Call (.Name x p) (e :: es) [] pos) (tL (sg X) E (fSortA ga)) :=
  (PE.orE (dl_sortN hc hu hg hm ha hv hn hdb he hpl) (dl_sort hu hg hm ha hv hn hdb he hpl)).weak fun σ H Q q => tL_or (f := ga) (fun d M => by
    unfold soA
    split
    · split
      · exact .inl rfl
      · exact .inr rfl
    · rename_i h
      left
      unfold kSortN
      split
      · rename_i d; exact absurd rfl (h d)
      · rfl) σ H Q q
/-- store into a list, a dict -/
@[simp] def kSetA (o i v : D) (M : Mem) : Res Unit := match dicAt M o with
  | some _ => kSetN o i v M
  | none => kSetIx o i v M
theorem Set2.or {t t' : TSet} {k k1 k2 : D → D → D → Mem → Res Unit} (h1 : Set2 X E t k1) (h2 : Set2 X E t' k2) (h : ∀ x y z M, k x y z M = k1 x y z M ∨ k x y z M = k2 x y z M) : Set2 X E (fun o i v H Q => t o i v H Q ∨ t' o i v H Q) k := fun w o i x vo vi vx Q ok io ii ix q => by
  rcases h o i x w.M with e | e
  · rw [e] at q; exact .inl (h1 w o i x vo vi vx Q ok io ii ix q)
  · rw [e] at q; exact .inr (h2 w o i x vo vi vx Q ok io ii ix q)
theorem PSet.or {t t' : TSet} (h : PSet X t) (h' : PSet X t') : PSet X (fun o i v H Q => t o i v H Q ∨ t' o i v H Q) := fun pins s σ H o i v ov iv u Q I ro ri rv q => q.elim (h pins s σ H o i v ov iv u Q I ro ri rv) (h' pins s σ H o i v ov iv u Q I ro ri rv)
theorem dg_subA (hu : X.A.units + 65 < cLine) (ho : PE X a (tE (sg X) E fa)) (hi : PE X b (tE (sg X) E fb))
    (ha : ∀ v, assign (.Subscript a b pos) X.env v = (do
      let ov ← holding [v] (eval a X.env)
      let iv ← holding [v, ov] (eval b X.env)
      standAt pos
      holding [v, ov, iv] (setItem ov iv v)
      release [v, ov, iv] []) := by intro _; rfl) : PG X (.Subscript a b pos) (tGt (sg X) E (gSb kSetA fa fb)) := dg_sub ho hi (PSet.or (set_dicN hu) set_list) (Set2.or set2_dicN set2_list fun x y z M => by
  unfold kSetA
  split
  · exact .inl rfl
  · exact .inr rfl) ha
end
theorem _root_.L2.Room.u65 {k : Nat} {A : Around} (r : Room k A) : A.units + 65 < cLine := by have := r.un; omega
end Dl

/-! The data layer, part S: small facts for simp. -/
namespace Dl
theorem ixN_nat {n i : Nat} (h : i < n) : L2.ixN n (i : Int) = some i := by
  unfold L2.ixN
  simp [h]
theorem atN {α : Type} (l : List α) (i : Nat) : L2.atI l (i : Int) = l[i]? := by
  unfold L2.atI
  by_cases h : i < l.length
  · rw [ixN_nat h]; rfl
  · have e : L2.ixN l.length (i : Int) = none := by
      unfold L2.ixN
      rw [if_pos (by omega), if_neg (by omega)]
    rw [e, List.getElem?_eq_none (by omega)]; rfl
@[simp] theorem atI_0 {α : Type} (l : List α) : L2.atI l 0 = l[0]? := atN l 0
@[simp] theorem atI_1 {α : Type} (l : List α) : L2.atI l 1 = l[1]? := atN l 1
@[simp] theorem atI_2 {α : Type} (l : List α) : L2.atI l 2 = l[2]? := atN l 2
@[simp] theorem atI_3 {α : Type} (l : List α) : L2.atI l 3 = l[3]? := atN l 3
@[simp] theorem atI_4 {α : Type} (l : List α) : L2.atI l 4 = l[4]? := atN l 4
@[simp] theorem atI_5 {α : Type} (l : List α) : L2.atI l 5 = l[5]? := atN l 5
theorem atI_last {α : Type} (l : List α) (a : α) : L2.atI (l ++ [a]) (-1) = some a := by
  unfold L2.atI L2.ixN
  rw [if_neg (by decide), if_pos (by simp; omega)]
  simp
  have : (-1 + ((l.length : Int) + 1)).toNat = l.length := by omega
  rw [this]; simp
@[simp] theorem ixN_0 (n : Nat) : L2.ixN (n + 1) 0 = some 0 := ixN_nat (i := 0) (Nat.succ_pos n)
@[simp] theorem ixN_1 (n : Nat) : L2.ixN (n + 2) 1 = some 1 := ixN_nat (i := 1) (by omega)
end Dl

set_option maxHeartbeats 1000000
/-! The data layer, part T: comprehensions and loops in plain words. -/
namespace Dl
open PySem PySem.Spec PyProof.Rows L2
section
variable {M0 : Mem} {p : Pat} {t : Ft} {f : Fe} {env0 : Env}
theorem comp_pure {α : Type} {M : Mem} (g : α → D) (e : α → Env) (c : α → Bool) (v : α → D) : ∀ (l : List α), (∀ a ∈ l, putD p (g a) env0 = some (e a)) → (∀ a ∈ l, t (e a) M = .ok (c a) M) → (∀ a ∈ l, c a = true → f (e a) M = .ok (v a) M) →
    compF M0 [] p t f env0 (l.map g) M = .ok ((l.filter c).map v) M
  | [], _, _, _ => by simp
  | a :: l, h1, h2, h3 => by
    have ih := comp_pure g e c v l (fun a h => h1 a (List.mem_cons_of_mem _ h)) (fun a h => h2 a (List.mem_cons_of_mem _ h)) (fun a h => h3 a (List.mem_cons_of_mem _ h))
    rw [List.map_cons, compF, chk_nil, if_pos rfl, h1 a List.mem_cons_self]
    simp only [h2 a List.mem_cons_self, nx_ok, bind_ok]
    cases hc : c a with
    | false =>
      rw [if_neg Bool.false_ne_true, ih, List.filter_cons_of_neg (by rw [hc]; exact Bool.false_ne_true)]
    | true =>
      rw [if_pos rfl]
      simp only [h3 a List.mem_cons_self hc, nx_ok, bind_ok, ih]
      rw [List.filter_cons_of_pos hc, List.map_cons]
theorem comp_all {α : Type} {M : Mem} (g : α → D) (e : α → Env) (v : α → D) (l : List α) (h1 : ∀ a ∈ l, putD p (g a) env0 = some (e a)) (h3 : ∀ a ∈ l, f (e a) M = .ok (v a) M) :
    compF M0 [] p tYesF f env0 (l.map g) M = .ok (l.map v) M := by
  have := comp_pure (M0 := M0) (t := tYesF) (f := f) (M := M) g e (fun _ => true) v l h1 (fun _ _ => rfl) fun a h _ => h3 a h
  rw [this]
  congr 2
  exact List.filter_eq_self.mpr fun _ _ => rfl
/-- the same, for rewriting: the slots are the goal's -/
theorem comp_all2 {α : Type} {M : Mem} {l : List α} {g : α → D} (v : α → D) (h : ∀ a ∈ l, ∃ e1, putD p (g a) env0 = some e1 ∧ f e1 M = .ok (v a) M) : compF M0 [] p tYesF f env0 (l.map g) M = .ok (l.map v) M :=
  comp_all g (fun a => (putD p (g a) env0).getD []) v l (fun a ha => by obtain ⟨e1, h1, _⟩ := h a ha; rw [h1]; rfl) fun a ha => by obtain ⟨e1, h1, h2⟩ := h a ha; rw [h1]; exact h2
theorem comp_if2 {α : Type} {M : Mem} {l : List α} {g : α → D} (c : α → Bool) (v : α → D) (h : ∀ a ∈ l, ∃ e1, putD p (g a) env0 = some e1 ∧ t e1 M = .ok (c a) M ∧ (c a = true → f e1 M = .ok (v a) M)) : compF M0 [] p t f env0 (l.map g) M = .ok ((l.filter c).map v) M :=
  comp_pure g (fun a => (putD p (g a) env0).getD []) c v l (fun a ha => by obtain ⟨e1, h1, _⟩ := h a ha; rw [h1]; rfl) (fun a ha => by obtain ⟨e1, h1, h2, _⟩ := h a ha; rw [h1]; exact h2) fun a ha hc => by obtain ⟨e1, h1, _, h2⟩ := h a ha; rw [h1]; exact h2 hc
/-- elements that change the memory -/
theorem comp_inv {α : Type} {pin : List Nat} (g : α → D) (Iv : Nat → List D → Mem → Prop) (hck : ∀ i acc M, Iv i acc M → chk M0 pin M = true) : ∀ (l : List α) (i : Nat) (acc : List D) (M : Mem), (∀ j a acc M, l[j]? = some a → Iv (i + j) acc M → ∃ e1 v M2, putD p (g a) env0 = some e1 ∧ f e1 M = .ok v M2 ∧ Iv (i + j + 1) (acc ++ [v]) M2) → Iv i acc M →
    ∃ vs M', compF M0 pin p tYesF f env0 (l.map g) M = .ok vs M' ∧ Iv (i + l.length) (acc ++ vs) M'
  | [], i, acc, M, _, h => ⟨[], M, by rw [List.map_nil, compF, hck _ _ _ h, if_pos rfl], by simpa using h⟩
  | a :: l, i, acc, M, hs, h => by
    obtain ⟨e1, v, M2, h1, h2, h3⟩ := hs 0 a acc M rfl h
    obtain ⟨vs, M', h4, h5⟩ := comp_inv g Iv hck l (i + 1) (acc ++ [v]) M2 (fun j b acc M e q => by
      have := hs (j + 1) b acc M (by simpa using e) (by rw [show i + (j + 1) = i + 1 + j by omega]; exact q)
      rw [show i + (j + 1) + 1 = i + 1 + j + 1 by omega] at this
      exact this) h3
    refine ⟨v :: vs, M', ?_, ?_⟩
    · rw [List.map_cons, compF, hck _ _ _ h, if_pos rfl, h1]
      simp [h2, h4]
    · rw [List.length_cons, show i + (l.length + 1) = i + 1 + l.length by omega]
      simpa using h5
theorem loop_inv {α : Type} {pin : List Nat} {b : Fs} (g : α → D) (Iv : Nat → Env → Mem → Prop) (hck : ∀ i env M, Iv i env M → chk M0 pin M = true) : ∀ (l : List α) (i : Nat) (env : Env) (M : Mem), (∀ j a env M, l[j]? = some a → Iv (i + j) env M → ∃ e1 e2 M2, putD p (g a) env = some e1 ∧ b e1 M = .ok (.nx e2) M2 ∧ Iv (i + j + 1) e2 M2) → Iv i env M →
    ∃ env' M', loopF M0 pin p b (l.map g) env M = .ok (.nx env') M' ∧ Iv (i + l.length) env' M'
  | [], i, env, M, _, h => ⟨env, M, by rw [List.map_nil, loopF]; dsimp only; rw [hck _ _ _ h, if_pos rfl], by simpa using h⟩
  | a :: l, i, env, M, hs, h => by
    obtain ⟨e1, e2, M2, h1, h2, h3⟩ := hs 0 a env M rfl h
    obtain ⟨env', M', h4, h5⟩ := loop_inv g Iv hck l (i + 1) e2 M2 (fun j b env M e q => by
      have := hs (j + 1) b env M (by simpa using e) (by rw [show i + (j + 1) = i + 1 + j by omega]; exact q)
      rw [show i + (j + 1) + 1 = i + 1 + j + 1 by omega] at this
      exact this) h3
    refine ⟨env', M', ?_, ?_⟩
    · rw [List.map_cons, loopF]; dsimp only; rw [hck _ _ _ h, if_pos rfl, h1]
      simp only [h2, bind_ok, h4]
    · rw [List.length_cons, show i + (l.length + 1) = i + 1 + l.length by omega]
      exact h5
/-- a loop that may return: one turn -/
theorem loop_cons {b : Fs} {d : D} {r : List D} {env e1 : Env} {M : Mem} (h : putD p d env = some e1) : loopF M0 [] p b (d :: r) env M = (b e1 M).bind fun fl M1 => (match fl with
    | .nx env2 => loopF M0 [] p b r env2 M1
    | .ct env2 => loopF M0 [] p b r env2 M1
    | .bk env2 => .ok (.nx env2) M1
    | .rt d => .ok (.rt d) M1) := by
  rw [loopF]; dsimp only; rw [chk_nil, if_pos rfl, h]
  all_goals rfl
end
theorem fSq_nx {f g : Fs} {env e1 : Env} {M M1 : Mem} (h : f env M = .ok (.nx e1) M1) : fSq f g env M = g e1 M1 := by
  unfold fSq; rw [h]; rfl
theorem fSq_rt {f g : Fs} {env : Env} {M M1 : Mem} {d : D} (h : f env M = .ok (.rt d) M1) : fSq f g env M = .ok (.rt d) M1 := by
  unfold fSq; rw [h]; rfl
theorem fnF_rt {n N : Nat} {b : Fs} {l : List D} {M M1 : Mem} {d : D} (hl : l.length = n) (h : b (l.map some ++ List.replicate (N - n) none) M = .ok (.rt d) M1) : fnF n N b l M = .ok d M1 := by
  unfold fnF; rw [if_pos hl, h]; rfl
theorem zip_ints : ∀ (l m : List Int), zipD (l.map D.int) (m.map D.int) = (l.zip m).map fun ab => D.tup [.int ab.1, .int ab.2]
  | [], _ => by simp [zipD]
  | _ :: _, [] => by simp [zipD]
  | a :: l, b :: m => by simp [zipD, zip_ints l m]
theorem zip_ints' {α β : Type} (f : α → D) (g : β → D) : ∀ (l : List α) (m : List β), zipD (l.map f) (m.map g) = (l.zip m).map fun ab => D.tup [f ab.1, g ab.2]
  | [], _ => by simp [zipD]
  | _ :: _, [] => by simp [zipD]
  | a :: l, b :: m => by simp [zipD, zip_ints' f g l m]
theorem numD_map {α : Type} (f : α → D) : ∀ (l : List α) (k : Nat), numD k (l.map f) = (l.zipIdx k).map fun ai => D.tup [.int (ai.2 : Nat), f ai.1]
  | [], _ => rfl
  | a :: l, k => by rw [List.map_cons, numD, numD_map f l (k + 1)]; simp
@[simp] theorem kit_ii : kitB "int" "int" = some true := by decide +kernel
@[simp] theorem kit_ib : kitB "int" "bool" = some false := by decide +kernel
@[simp] theorem kit_tt : kitB "tuple" "tuple" = some true := by decide +kernel
@[simp] theorem kit_ss : kitB "str" "str" = some true := by decide +kernel
@[simp] theorem asBls_const {α : Type} (l : List α) (b : α → Bool) : asBls (l.map fun a => D.bl (b a)) = some (l.map b) := by
  have : (l.map fun a => D.bl (b a)) = (l.map b).map D.bl := by rw [List.map_map]; rfl
  rw [this, asBls_map]
@[simp] theorem asInts_fun {α : Type} (l : List α) (b : α → Int) : asInts (l.map fun a => D.int (b a)) = some (l.map b) := by
  have : (l.map fun a => D.int (b a)) = (l.map b).map D.int := by rw [List.map_map]; rfl
  rw [this, asInts_map]
end Dl

set_option maxHeartbeats 0
/-! The mirror of law_k50_whole_places_come_within: each def as a step on data (printed by gen.py). -/
namespace Lw
open PySem PySem.Spec PyProof.Rows L2 Dl
def B__law_draw : Fs := (fSq (fIf (tBl (e2 kGt (e2 kIxA (eV 0) (eC (.int 0))) (eC (.int 0)))) (fSq (fAsg (eB kDivmod (aC (e2 kIxA (eV 0) (eC (.int 0))) (aC (eV 1) aN))) (gTp 2 (gCons2 (gSb kSetA (eV 0) (eC (.int 0))) (gCons2 (gNm 2) gNil2)))) (fRet (eV 2))) fN) (fSq (fAsg (e2 kMod (eB kInt1 (aC (e2 kAdd (e2 kMulA (e2 kIxA (eV 0) (eC (.int 1))) (eC (.int 39373))) (eC (.int 17))) aN)) (eC (.int 2147483647))) (gSb kSetA (eV 0) (eC (.int 1)))) (fRet (e2 kMod (eB kInt1 (aC (e2 kFdiv (e2 kMod (eB kInt1 (aC (e2 kMulA (e2 kIxA (eV 0) (eC (.int 1))) (e2 kIxA (eV 0) (eC (.int 1)))) aN)) (eC (.int 2147483563))) (eC (.int 23))) aN)) (eV 1)))))
def F__law_draw : Fk := fnF 2 3 B__law_draw
def B__law_row : Fs := (fRet (eB kTupOf (aC (fV (fLc [3] (fRng1 (aC (eV 1) aN)) (.nm 3) tYesF (eF 2 0 [0, 1] F__law_draw (aC (eV 0) (aC (e2 kAdd (eV 2) (eC (.int 1))) aN)) aN))) aN)))
def F__law_row : Fk := fnF 3 4 B__law_row
def B__law_pick : Fs := (fRet (e2 kIxA (eV 1) (eF 2 0 [0, 1] F__law_draw (aC (eV 0) (aC (eB kLen (aC (eV 1) aN)) aN)) aN)))
def F__law_pick : Fk := fnF 2 2 B__law_pick
def B__law_tame : Fs := (fSq (fPar 1 2 (aC (e2 kAdd (eC (.int 1)) (eF 2 0 [0, 1] F__law_draw (aC (eV 0) (aC (eC (.int 3)) aN)) aN)) (aC (e2 kAdd (eC (.int 1)) (eF 2 0 [0, 1] F__law_draw (aC (eV 0) (aC (eC (.int 3)) aN)) aN)) aN))) (fSq (fUn (.tp [3, 4]) (eTup (aC (fA aN) (aC (eF 2 0 [0, 1] F__law_draw (aC (eV 0) (aC (eC (.int 3)) aN)) aN) aN)))) (fSq (fFor (fRng1 (aC (e2 kAdd (eC (.int 1)) (eF 2 0 [0, 1] F__law_draw (aC (eV 0) (aC (eC (.int 4)) aN)) aN)) aN)) (.nm 5) (fSq (fSet 7 (eB kTupOf (aC (fV (fLc [9] (fRng1 (aC (eV 2) aN)) (.nm 9) tYesF (eF 2 0 [0, 1] F__law_pick (aC (eV 0) (aC (eIf (tBl (e2 kGt (eV 4) (eC (.int 0)))) (fV (aC (e1 kNeg (eC (.int 2))) (aC (e1 kNeg (eC (.int 1))) (aC (e1 kNeg (eC (.int 1))) (aC (eC (.int 0)) (aC (eC (.int 1)) aN)))))) (fV (aC (e1 kNeg (eC (.int 3))) (aC (e1 kNeg (eC (.int 2))) (aC (e1 kNeg (eC (.int 1))) (aC (eC (.int 1)) (aC (eC (.int 2)) aN))))))) aN)) aN))) aN))) (fSq (fSet 8 (eB kTupOf (aC (fV (fLc [10] (fItA (eV 7)) (.nm 10) tYesF (e2 kAdd (eB kMax2 (aC (eC (.int 0)) (aC (e2 kSub (eC (.int 0)) (eV 10)) aN))) (eF 2 0 [0, 1] F__law_pick (aC (eV 0) (aC (fV (aC (eC (.int 0)) (aC (eC (.int 0)) (aC (eC (.int 0)) (aC (eC (.int 1)) aN))))) aN)) aN)))) aN))) (fDrop (eM kAppend (eV 3) (aC (eTup (aC (eC (.str "step")) (aC (eF 2 0 [0, 1] F__law_draw (aC (eV 0) (aC (eV 1) aN)) aN) (aC (eF 2 0 [0, 1] F__law_draw (aC (eV 0) (aC (eV 1) aN)) aN) (aC (eV 8) (aC (eV 7) (aC (eC (.int 0)) aN))))))) aN)))))) (fSq (fSet 6 (eTup (aC (eC (.str "farm")) (aC (eV 1) (aC (eV 2) (aC (eB kTupOf (aC (eV 3) aN)) aN)))))) (fRet (eTup (aC (eV 6) (aC (eTup (aC (eF 2 0 [0, 1] F__law_draw (aC (eV 0) (aC (eV 1) aN)) aN) (aC (eF 3 0 [0, 1, 2] F__law_row (aC (eV 0) (aC (eV 2) (aC (eF 2 0 [0, 1] F__law_pick (aC (eV 0) (aC (fV (aC (eC (.int 1)) (aC (eC (.int 3)) (aC (eC (.int 5)) aN)))) aN)) aN) aN))) aN) aN))) aN))))))))
def F__law_tame : Fk := fnF 1 11 B__law_tame
def B__law_is_least : Fs := (fRet (eNot (eB kAny (aC (fV (fLc [2, 3] (fZip (aC (eV 0) (aC (eV 1) aN))) (.tp [2, 3]) tYesF (e2 kLt (eV 2) (eV 3)))) aN))))
def F__law_is_least : Fk := fnF 2 4 B__law_is_least
def B__law_all_runs : Fs := (fSq (fSet 3 (fA (aC (fV (aC (eTup (aC (eTup aN) (aC (eV 1) aN))) aN)) aN))) (fSq (fFor (fRng1 (aC (eV 2) aN)) (.nm 4) (fSq (fSet 5 (fA aN)) (fSq (fFor (fItA (e2 kIxA (eV 3) (e1 kNeg (eC (.int 1))))) (.tp [6, 7]) (fFor (fEnumA (aC (e2 kIxA (eV 0) (eC (.int 3))) aN)) (.tp [8, 9]) (fIf (tAndF (tBl (e2 kEqA (e2 kIxA (eV 9) (eC (.int 1))) (e2 kIxA (eV 7) (eC (.int 0))))) (tV (eF 2 0 [0, 1] F__law_is_least (aC (e2 kIxA (eV 7) (eC (.int 1))) (aC (e2 kIxA (eV 9) (eC (.int 3))) aN)) aN))) (fDrop (eM kAppend (eV 5) (aC (eTup (aC (e2 kAdd (eV 6) (eTup (aC (eV 8) aN))) (aC (eTup (aC (e2 kIxA (eV 9) (eC (.int 2))) (aC (eB kTupOf (aC (fV (fLc [10, 11] (fZip (aC (e2 kIxA (eV 7) (eC (.int 1))) (aC (e2 kIxA (eV 9) (eC (.int 4))) aN))) (.tp [10, 11]) tYesF (e2 kAdd (eV 10) (eV 11)))) aN)) aN))) aN))) aN))) fN))) (fDrop (eM kAppend (eV 3) (aC (eFz (eV 5)) aN)))))) (fRet (eFz (eV 3)))))
def F__law_all_runs : Fk := fnF 3 12 B__law_all_runs
def B_is_integer : Fs := (fRet (eAnd (eB kIsi (aC (eV 0) (aC (eC (.ty "int")) aN))) (eNot (eB kIsi (aC (eV 0) (aC (eC (.ty "bool")) aN))))))
def F_is_integer : Fk := fnF 1 1 B_is_integer
def B_is_count : Fs := (fRet (eAnd (eF 1 0 [0] F_is_integer (aC (eV 0) aN) aN) (e2 kGe (eV 0) (eC (.int 0)))))
def F_is_count : Fk := fnF 1 1 B_is_count
def B_wants_are_right : Fs := (fSq (fIf (tOrF (tNotF (tV (eB kIsi (aC (eV 1) (aC (eC (.ty "tuple")) aN))))) (tOrF (tNotF (tV (eB kIsi (aC (eV 2) (aC (eC (.ty "tuple")) aN))))) (tNotF (tBl (eCh kEqA kEqA (eB kLen (aC (eV 1) aN)) (eB kLen (aC (eV 2) aN)) (eV 0)))))) (fRet (eC (.bl false))) fN) (fSq (fIf (tNotF (tV (eB kAll (aC (fV (fLc [5] (fItA (eV 1)) (.nm 5) tYesF (eAnd (eF 1 0 [0] F_is_count (aC (eV 5) aN) aN) (e2 kLe (eV 5) (eC (.int 9)))))) aN)))) (fRet (eC (.bl false))) fN) (fSq (fIf (tNotF (tV (eB kAll (aC (fV (fLc [5] (fItA (eV 2)) (.nm 5) tYesF (eAnd (eF 1 0 [0] F_is_integer (aC (eV 5) aN) aN) (e2 kLe (eB kAbs (aC (eV 5) aN)) (eC (.int 9)))))) aN)))) (fRet (eC (.bl false))) fN) (fRet (eB kAll (aC (fV (fLc [3, 4] (fZip (aC (eV 1) (aC (eV 2) aN))) (.tp [3, 4]) tYesF (e2 kGe (e2 kAdd (eV 3) (eV 4)) (eC (.int 0))))) aN))))))
def F_wants_are_right : Fk := fnF 3 6 B_wants_are_right
def B_is_position : Fs := (fRet (eAnd (eF 1 0 [0] F_is_integer (aC (eV 0) aN) aN) (eCh kLe kLt (eC (.int 0)) (eV 0) (eV 1))))
def F_is_position : Fk := fnF 2 2 B_is_position
def B_step_is_right : Fs := (fSq (fIf (tOrF (tNotF (tV (eB kIsi (aC (eV 2) (aC (eC (.ty "tuple")) aN))))) (tOrF (tBl (e2 kNeA (eB kLen (aC (eV 2) aN)) (eC (.int 6)))) (tOrF (tNotF (tV (eB kIsi (aC (e2 kIxA (eV 2) (eC (.int 0))) (aC (eC (.ty "str")) aN))))) (tBl (e2 kNeA (e2 kIxA (eV 2) (eC (.int 0))) (eC (.str "step"))))))) (fRet (eC (.bl false))) fN) (fSq (fIf (tOrF (tNotF (tV (eF 2 0 [0, 1] F_is_position (aC (e2 kIxA (eV 2) (eC (.int 1))) (aC (eV 0) aN)) aN))) (tNotF (tV (eF 2 0 [0, 1] F_is_position (aC (e2 kIxA (eV 2) (eC (.int 2))) (aC (eV 0) aN)) aN)))) (fRet (eC (.bl false))) fN) (fRet (eAnd (eF 3 0 [0, 1, 2] F_wants_are_right (aC (eV 1) (aC (e2 kIxA (eV 2) (eC (.int 3))) (aC (e2 kIxA (eV 2) (eC (.int 4))) aN))) aN) (eAnd (eF 1 0 [0] F_is_count (aC (e2 kIxA (eV 2) (eC (.int 5))) aN) aN) (e2 kLe (e2 kIxA (eV 2) (eC (.int 5))) (eC (.int 99))))))))
def F_step_is_right : Fk := fnF 3 3 B_step_is_right
def B_flaw_of : Fs := (fSq (fIf (tOrF (tNotF (tV (eB kIsi (aC (eV 0) (aC (eC (.ty "tuple")) aN))))) (tOrF (tBl (e2 kNeA (eB kLen (aC (eV 0) aN)) (eC (.int 4)))) (tOrF (tNotF (tV (eB kIsi (aC (e2 kIxA (eV 0) (eC (.int 0))) (aC (eC (.ty "str")) aN))))) (tBl (e2 kNeA (e2 kIxA (eV 0) (eC (.int 0))) (eC (.str "farm"))))))) (fRet (eC (.str "form"))) fN) (fSq (fIf (tOrF (tNotF (tV (eF 1 0 [0] F_is_integer (aC (e2 kIxA (eV 0) (eC (.int 1))) aN) aN))) (tNotF (tBl (eCh kLe kLe (eC (.int 1)) (e2 kIxA (eV 0) (eC (.int 1))) (eC (.int 6)))))) (fRet (eC (.str "standings"))) fN) (fSq (fIf (tOrF (tNotF (tV (eF 1 0 [0] F_is_integer (aC (e2 kIxA (eV 0) (eC (.int 2))) aN) aN))) (tNotF (tBl (eCh kLe kLe (eC (.int 1)) (e2 kIxA (eV 0) (eC (.int 2))) (eC (.int 3)))))) (fRet (eC (.str "stocks"))) fN) (fSq (fIf (tOrF (tNotF (tV (eB kIsi (aC (e2 kIxA (eV 0) (eC (.int 3))) (aC (eC (.ty "tuple")) aN))))) (tBl (e2 kGt (eB kLen (aC (e2 kIxA (eV 0) (eC (.int 3))) aN)) (eC (.int 12))))) (fRet (eC (.str "steps"))) fN) (fRet (eIf (tV (eB kAll (aC (fV (fLc [1] (fItA (e2 kIxA (eV 0) (eC (.int 3)))) (.nm 1) tYesF (eF 3 0 [0, 1, 2] F_step_is_right (aC (e2 kIxA (eV 0) (eC (.int 1))) (aC (e2 kIxA (eV 0) (eC (.int 2))) (aC (eV 1) aN))) aN))) aN))) (eC .non) (eC (.str "steps"))))))))
def F_flaw_of : Fk := fnF 1 2 B_flaw_of
def B_check_farm : Fs := (fIf (tBl (e2 kIsNot (eF 1 0 [0] F_flaw_of (aC (eV 0) aN) aN) (eC .non))) fBad fN)
def F_check_farm : Fk := fnF 1 1 B_check_farm
def B_row_is_right : Fs := (fSq (fIf (tOrF (tNotF (tV (eB kIsi (aC (eV 1) (aC (eC (.ty "tuple")) aN))))) (tBl (e2 kNeA (eB kLen (aC (eV 1) aN)) (eV 0)))) (fRet (eC (.bl false))) fN) (fRet (eB kAll (aC (fV (fLc [2] (fItA (eV 1)) (.nm 2) tYesF (eAnd (eF 1 0 [0] F_is_count (aC (eV 2) aN) aN) (e2 kLe (eV 2) (eC (.int 999)))))) aN))))
def F_row_is_right : Fk := fnF 2 3 B_row_is_right
def B_place_is_right : Fs := (fSq (fIf (tOrF (tNotF (tV (eB kIsi (aC (eV 1) (aC (eC (.ty "tuple")) aN))))) (tOrF (tBl (e2 kNeA (eB kLen (aC (eV 1) aN)) (eC (.int 2)))) (tNotF (tV (eF 2 0 [0, 1] F_is_position (aC (e2 kIxA (eV 1) (eC (.int 0))) (aC (e2 kIxA (eV 0) (eC (.int 1))) aN)) aN))))) (fRet (eC (.bl false))) fN) (fRet (eF 2 0 [0, 1] F_row_is_right (aC (e2 kIxA (eV 0) (eC (.int 2))) (aC (e2 kIxA (eV 1) (eC (.int 1))) aN)) aN)))
def F_place_is_right : Fk := fnF 2 2 B_place_is_right
def B_check_place : Fs := (fIf (tNotF (tV (eF 2 0 [0, 1] F_place_is_right (aC (eV 0) (aC (eV 1) aN)) aN))) fBad fN)
def F_check_place : Fk := fnF 2 2 B_check_place
def B_check_both : Fs := (fSq (fDrop (eF 1 0 [0] F_check_farm (aC (eV 0) aN) aN)) (fDrop (eF 2 0 [0, 1] F_check_place (aC (eV 0) (aC (eV 1) aN)) aN)))
def F_check_both : Fk := fnF 2 2 B_check_both
def B_is_least : Fs := (fRet (eB kAll (aC (fV (fLc [2, 3] (fZip (aC (eV 0) (aC (eV 1) aN))) (.tp [2, 3]) tYesF (e2 kGe (eV 2) (eV 3)))) aN)))
def F_is_least : Fk := fnF 2 4 B_is_least
def B_is_let : Fs := (fRet (eAnd (e2 kEqA (e2 kIxA (e2 kIxA (e2 kIxA (eV 0) (eC (.int 3))) (eV 2)) (eC (.int 1))) (e2 kIxA (eV 1) (eC (.int 0)))) (eF 2 0 [0, 1] F_is_least (aC (e2 kIxA (eV 1) (eC (.int 1))) (aC (e2 kIxA (e2 kIxA (e2 kIxA (eV 0) (eC (.int 3))) (eV 2)) (eC (.int 3))) aN)) aN)))
def F_is_let : Fk := fnF 3 3 B_is_let
def B_let_at : Fs := (fRet (fV (fLc [2] (fRng1 (aC (eB kLen (aC (e2 kIxA (eV 0) (eC (.int 3))) aN)) aN)) (.nm 2) (tV (eF 3 0 [0, 1, 2] F_is_let (aC (eV 0) (aC (eV 1) (aC (eV 2) aN))) aN)) (eV 2))))
def F_let_at : Fk := fnF 2 3 B_let_at
def B_added : Fs := (fRet (eB kTupOf (aC (fV (fLc [2, 3] (fZip (aC (eV 0) (aC (eV 1) aN))) (.tp [2, 3]) tYesF (e2 kAdd (eV 2) (eV 3)))) aN)))
def F_added : Fk := fnF 2 4 B_added
def B_led_by : Fs := (fRet (eTup (aC (e2 kIxA (e2 kIxA (e2 kIxA (eV 0) (eC (.int 3))) (eV 2)) (eC (.int 2))) (aC (eF 2 0 [0, 1] F_added (aC (e2 kIxA (eV 1) (eC (.int 1))) (aC (e2 kIxA (e2 kIxA (e2 kIxA (eV 0) (eC (.int 3))) (eV 2)) (eC (.int 4))) aN)) aN) aN))))
def F_led_by : Fk := fnF 3 3 B_led_by
def B_next_level : Fs := (fSq (fSet 3 (fA aN)) (fSq (fFor (fItA (eV 2)) (.nm 4) (fFor (fItA (eF 2 0 [0, 1] F_let_at (aC (eV 0) (aC (eV 4) aN)) aN)) (.nm 5) (fSq (fSet 6 (eF 3 0 [0, 1, 2] F_led_by (aC (eV 0) (aC (eV 4) (aC (eV 5) aN))) aN)) (fIf (tBl (e2 (kInA (!·)) (eV 6) (eV 1))) (fSq (fAsg (e2 kAdd (e2 kIxA (eV 1) (eV 4)) (eTup (aC (eV 5) aN))) (gSb kSetA (eV 1) (eV 6))) (fDrop (eM kAppend (eV 3) (aC (eV 6) aN)))) fN)))) (fRet (eFz (eV 3)))))
def F_next_level : Fk := fnF 3 7 B_next_level
def B_is_near : Fs := (fRet (eB kAll (aC (fV (fLc [3, 4] (fZip (aC (e2 kIxA (eV 0) (eC (.int 1))) (aC (e2 kIxA (eV 1) (eC (.int 1))) aN))) (.tp [3, 4]) tYesF (e2 kLe (eB kAbs (aC (e2 kSub (eV 3) (eV 4)) aN)) (e2 kMulA (eC (.int 9)) (eV 2))))) aN)))
def F_is_near : Fk := fnF 3 5 B_is_near
def B_first_to : Fs := (fSq (fPar 4 5 (aC (eD1 (eV 1) (eTup aN)) (aC (fV (aC (eV 1) aN)) aN))) (fSq (fFor (fRevR (eV 3)) (.nm 6) (fSq (fIf (tBl (e2 (kInA id) (eV 2) (eV 4))) (fRet (e2 kIxA (eV 4) (eV 2))) fN) (fSet 5 (fV (fLc [7] (fItA (eF 3 0 [0, 1, 2] F_next_level (aC (eV 0) (aC (eV 4) (aC (eV 5) aN))) aN)) (.nm 7) (tV (eF 3 0 [0, 1, 2] F_is_near (aC (eV 7) (aC (eV 2) (aC (eV 6) aN))) aN)) (eV 7)))))) (fRet (eGetN (eV 4) (eV 2)))))
def F_first_to : Fk := fnF 4 8 B_first_to
def B_great_place_is_right : Fs := (fSq (fIf (tOrF (tNotF (tV (eB kIsi (aC (eV 1) (aC (eC (.ty "tuple")) aN))))) (tOrF (tBl (e2 kNeA (eB kLen (aC (eV 1) aN)) (eC (.int 2)))) (tNotF (tV (eF 2 0 [0, 1] F_is_position (aC (e2 kIxA (eV 1) (eC (.int 0))) (aC (e2 kIxA (eV 0) (eC (.int 1))) aN)) aN))))) (fRet (eC (.bl false))) fN) (fRet (eAnd (eB kIsi (aC (e2 kIxA (eV 1) (eC (.int 1))) (aC (eC (.ty "tuple")) aN))) (eAnd (e2 kEqA (eB kLen (aC (e2 kIxA (eV 1) (eC (.int 1))) aN)) (e2 kIxA (eV 0) (eC (.int 2)))) (eB kAll (aC (fV (fLc [2] (fItA (e2 kIxA (eV 1) (eC (.int 1)))) (.nm 2) tYesF (eF 1 0 [0] F_is_count (aC (eV 2) aN) aN))) aN))))))
def F_great_place_is_right : Fk := fnF 2 3 B_great_place_is_right
def B_first_run : Fs := (fSq (fDrop (eF 2 0 [0, 1] F_check_both (aC (eV 0) (aC (eV 1) aN)) aN)) (fSq (fIf (tNotF (tV (eF 2 0 [0, 1] F_great_place_is_right (aC (eV 0) (aC (eV 2) aN)) aN))) fBad fN) (fRet (eF 4 0 [0, 1, 2, 3] F_first_to (aC (eV 0) (aC (eV 1) (aC (eV 2) (aC (eC (.int 12)) aN)))) aN))))
def F_first_run : Fk := fnF 3 3 B_first_run
def B_check_within : Fs := (fSq (fDrop (eF 2 0 [0, 1] F_check_both (aC (eV 0) (aC (eV 1) aN)) aN)) (fIf (tOrF (tNotF (tV (eF 1 0 [0] F_is_count (aC (eV 2) aN) aN))) (tBl (e2 kGt (eV 2) (eC (.int 12))))) fBad fN))
def F_check_within : Fk := fnF 3 3 B_check_within
def B_within : Fs := (fSq (fPar 3 4 (aC (eD1 (eV 1) (eTup aN)) (aC (fV (aC (eV 1) aN)) aN))) (fSq (fFor (fRng1 (aC (eV 2) aN)) (.nm 5) (fSet 4 (eF 3 0 [0, 1, 2] F_next_level (aC (eV 0) (aC (eV 3) (aC (eV 4) aN))) aN))) (fRet (eV 3))))
def F_within : Fk := fnF 3 6 B_within
def B_come_within : Fs := (fSq (fDrop (eF 3 0 [0, 1, 2] F_check_within (aC (eV 0) (aC (eV 1) (aC (eV 2) aN))) aN)) (fRet (fA (fSortA (aC (eF 3 0 [0, 1, 2] F_within (aC (eV 0) (aC (eV 1) (aC (eV 2) aN))) aN) aN)))))
def F_come_within : Fk := fnF 3 3 B_come_within
def B_way_is_right : Fs := (fSq (fIf (tOrF (tNotF (tV (eB kIsi (aC (eV 1) (aC (eC (.ty "tuple")) aN))))) (tNotF (tV (eB kAll (aC (fV (fLc [4] (fItA (eV 1)) (.nm 4) tYesF (eF 2 0 [0, 1] F_is_position (aC (eV 4) (aC (eB kLen (aC (e2 kIxA (eV 0) (eC (.int 3))) aN)) aN)) aN))) aN))))) (fRet (eC (.bl false))) fN) (fRet (eB kAll (aC (fV (fLc [2, 3] (fZip (aC (eV 1) (aC (eSl (eV 1) (oS (eC (.int 1))) oN) aN))) (.tp [2, 3]) tYesF (e2 kEqA (e2 kIxA (e2 kIxA (e2 kIxA (eV 0) (eC (.int 3))) (eV 2)) (eC (.int 2))) (e2 kIxA (e2 kIxA (e2 kIxA (eV 0) (eC (.int 3))) (eV 3)) (eC (.int 1)))))) aN))))
def F_way_is_right : Fk := fnF 2 5 B_way_is_right
def B_check_way : Fs := (fIf (tOrF (tNotF (tV (eF 2 0 [0, 1] F_way_is_right (aC (eV 0) (aC (eV 1) aN)) aN))) (tBl (e2 kGt (eB kLen (aC (eV 1) aN)) (eC (.int 5000))))) fBad fN)
def F_check_way : Fk := fnF 2 2 B_check_way
def B_places_along : Fs := (fSq (fSet 3 (fA (aC (eV 1) aN))) (fSq (fFor (fItA (eV 2)) (.nm 4) (fSq (fIf (tNotF (tV (eF 3 0 [0, 1, 2] F_is_let (aC (eV 0) (aC (e2 kIxA (eV 3) (e1 kNeg (eC (.int 1)))) (aC (eV 4) aN))) aN))) (fRet (eC .non)) fN) (fDrop (eM kAppend (eV 3) (aC (eF 3 0 [0, 1, 2] F_led_by (aC (eV 0) (aC (e2 kIxA (eV 3) (e1 kNeg (eC (.int 1)))) (aC (eV 4) aN))) aN) aN))))) (fRet (eFz (eV 3)))))
def F_places_along : Fk := fnF 3 5 B_places_along
def B_run_places : Fs := (fSq (fDrop (eF 1 0 [0] F_check_farm (aC (eV 0) aN) aN)) (fSq (fDrop (eF 2 0 [0, 1] F_check_place (aC (eV 0) (aC (eV 1) aN)) aN)) (fSq (fDrop (eF 2 0 [0, 1] F_check_way (aC (eV 0) (aC (eV 2) aN)) aN)) (fRet (eF 3 0 [0, 1, 2] F_places_along (aC (eV 0) (aC (eV 1) (aC (eV 2) aN))) aN)))))
def F_run_places : Fk := fnF 3 3 B_run_places
def B__law_right : Fs := (fSq (fUn (.tp [1, 2]) (eF 1 0 [0] F__law_tame (aC (eV 0) aN) aN)) (fSq (fPar 3 4 (aC (eB kRepr (aC (eV 1) aN)) (aC eD0 aN))) (fSq (fFor (fEnumA (aC (eF 3 0 [0, 1, 2] F__law_all_runs (aC (eV 1) (aC (eV 2) (aC (eC (.int 4)) aN))) aN) aN)) (.tp [5, 6]) (fSq (fFor (fItA (eV 6)) (.tp [10, 7]) (fIf (tBl (e2 (kInA (!·)) (eV 7) (eV 4))) (fAsg (eV 10) (gSb kSetA (eV 4) (eV 7))) fN)) (fSq (fSet 11 (fV (fSortA (aC (eV 4) aN)))) (fSq (fIf (tBl (e2 kNeA (eB kRepr (aC (fV (aC (eF 3 0 [0, 1, 2] F_come_within (aC (eV 1) (aC (eV 2) (aC (eV 5) aN))) aN) (aC (eF 0 3 [2, 1, 0] F_come_within aN (aC (eV 5) (aC (eV 2) (aC (eV 1) aN)))) aN))) aN)) (eB kRepr (aC (fV (aC (eV 11) (aC (eV 11) aN))) aN)))) (fRet (eC (.bl false))) fN) (fDrop (eM kAppend (eF 3 0 [0, 1, 2] F_come_within (aC (eV 1) (aC (eV 2) (aC (eV 5) aN))) aN) (aC (eC .non) aN))))))) (fSq (fLck 4 (fFor (fItA (eV 4)) (.nm 7) (fIf (tBl (e2 kNeA (eB kRepr (aC (fV (aC (eF 3 0 [0, 1, 2] F_first_run (aC (eV 1) (aC (eV 2) (aC (eV 7) aN))) aN) (aC (eF 0 3 [2, 1, 0] F_first_run aN (aC (eV 7) (aC (eV 2) (aC (eV 1) aN)))) aN))) aN)) (eB kRepr (aC (e2 kMulA (fV (aC (e2 kIxA (eV 4) (eV 7)) aN)) (eC (.int 2))) aN)))) (fRet (eC (.bl false))) fN))) (fSq (fFor (fRng1 (aC (eC (.int 4)) aN)) (.nm 8) (fSq (fSet 12 (eTup (aC (eF 2 0 [0, 1] F__law_draw (aC (eV 0) (aC (e2 kIxA (eV 1) (eC (.int 1))) aN)) aN) (aC (eF 3 0 [0, 1, 2] F__law_row (aC (eV 0) (aC (e2 kIxA (eV 1) (eC (.int 2))) (aC (eC (.int 6)) aN))) aN) aN)))) (fSq (fSet 13 (eF 3 0 [0, 1, 2] F_first_run (aC (eV 1) (aC (eV 2) (aC (eV 12) aN))) aN)) (fSq (fIf (tOrF (tAndF (tBl (e2 (kInA id) (eV 12) (eV 4))) (tBl (e2 kNeA (eV 13) (e2 kIxA (eV 4) (eV 12))))) (tAndF (tBl (e2 kIsNot (eV 13) (eC .non))) (tBl (e2 kNeA (e2 kIxA (eF 3 0 [0, 1, 2] F_run_places (aC (eV 1) (aC (eV 2) (aC (eV 13) aN))) aN) (e1 kNeg (eC (.int 1)))) (eV 12))))) (fRet (eC (.bl false))) fN) (fIf (tOrF (tAndF (tBl (e2 kIsNot (eV 13) (eC .non))) (tAndF (tBl (e2 (kInA (!·)) (eV 12) (eV 4))) (tBl (e2 kLt (eB kLen (aC (eV 13) aN)) (eC (.int 5)))))) (tAndF (tBl (e2 kIs (eV 13) (eC .non))) (tBl (e2 (kInA id) (eV 12) (eF 3 0 [0, 1, 2] F_come_within (aC (eV 1) (aC (eV 2) (aC (eC (.int 12)) aN))) aN))))) (fRet (eC (.bl false))) fN))))) (fSq (fSet 9 (eTup (aC (e2 kIxA (eV 2) (eC (.int 0))) (aC (eB kTupOf (aC (fV (fLc [15] (fItA (e2 kIxA (eV 2) (eC (.int 1)))) (.nm 15) tYesF (e2 kAdd (eV 15) (eF 2 0 [0, 1] F__law_draw (aC (eV 0) (aC (eC (.int 2)) aN)) aN)))) aN)) aN)))) (fSq (fIf (tBl (e2 kLt (eB kLen (aC (eF 3 0 [0, 1, 2] F_come_within (aC (eV 1) (aC (eV 9) (aC (eC (.int 4)) aN))) aN) aN)) (eB kLen (aC (eF 3 0 [0, 1, 2] F_come_within (aC (eV 1) (aC (eV 2) (aC (eC (.int 4)) aN))) aN) aN)))) (fRet (eC (.bl false))) fN) (fSq (fIf (tBl (e2 kGt (eB kLen (aC (e2 kIxA (eV 1) (eC (.int 3))) aN)) (eC (.int 1)))) (fSq (fSet 14 (e2 kAdd (eSl (eV 1) oN (oS (eC (.int 3)))) (eTup (aC (eSl (e2 kIxA (eV 1) (eC (.int 3))) oN (oS (e1 kNeg (eC (.int 1))))) aN)))) (fIf (tV (eB kAny (aC (fV (fLc [15] (fItA (eF 3 0 [0, 1, 2] F_come_within (aC (eV 14) (aC (eV 2) (aC (eC (.int 4)) aN))) aN)) (.nm 15) tYesF (e2 (kInA (!·)) (eV 15) (eF 3 0 [0, 1, 2] F_come_within (aC (eV 1) (aC (eV 2) (aC (eC (.int 4)) aN))) aN)))) aN))) (fRet (eC (.bl false))) fN)) fN) (fRet (e2 kEqA (eB kRepr (aC (eV 1) aN)) (eV 3)))))))))))
def F__law_right : Fk := fnF 1 16 B__law_right
def B__law_pot : Fs := (fSq (fSet 1 (eC (.int 2657))) (fSq (fFor (fItA (eV 0)) (.nm 2) (fSet 1 (e2 kMod (eB kInt1 (aC (e2 kAdd (e2 kAdd (e2 kMulA (eV 1) (eC (.int 42829))) (e2 kMod (eB kInt1 (aC (eV 2) aN)) (eC (.int 2147483579)))) (eC (.int 74377))) aN)) (eC (.int 2147483629))))) (fSq (fSet 3 (eIf (tBl (e2 kGt (eB kLen (aC (eV 0) aN)) (eC (.int 0)))) (eB kAbs (aC (e2 kIxA (eV 0) (eC (.int 0))) aN)) (eC (.int 0)))) (fRet (fA (aC (eB kMax2 (aC (eC (.int 0)) (aC (e2 kSub (eV 3) (e2 kPow (eC (.int 10)) (eC (.int 18)))) aN))) (aC (e2 kAdd (eV 1) (eC (.int 1))) aN)))))))
def F__law_pot : Fk := fnF 1 4 B__law_pot
def B_law : Fs := (fRet (eF 1 0 [0] F__law_right (aC (eF 1 0 [0] F__law_pot (aC (eV 0) aN) aN) aN) aN))
def F_law : Fk := fnF 1 1 B_law
end Lw

set_option maxHeartbeats 0
/-! The walk of law_k50_whole_places_come_within (printed by gen.py). -/
namespace Lw
open PySem PySem.Spec PyProof.Rows L2 Dl
def top (i : Nat) : Stmt := PySem.Challenge.pw_neverspent_k50_whole_places_come_within.main.body.getD i (.Pass ⟨0, 0, 0, 0⟩)
def d__law_draw : He.DefD := ⟨("_law_draw", none), "_law_draw", "_law_draw", defArgs (top 49), defBody (top 49), defScope (top 49), [], []⟩
def d__law_row : He.DefD := ⟨("_law_row", none), "_law_row", "_law_row", defArgs (top 51), defBody (top 51), defScope (top 51), [], []⟩
def d__law_pick : He.DefD := ⟨("_law_pick", none), "_law_pick", "_law_pick", defArgs (top 50), defBody (top 50), defScope (top 50), [], []⟩
def d__law_tame : He.DefD := ⟨("_law_tame", none), "_law_tame", "_law_tame", defArgs (top 53), defBody (top 53), defScope (top 53), [], []⟩
def d__law_is_least : He.DefD := ⟨("_law_is_least", none), "_law_is_least", "_law_is_least", defArgs (top 52), defBody (top 52), defScope (top 52), [], []⟩
def d__law_all_runs : He.DefD := ⟨("_law_all_runs", none), "_law_all_runs", "_law_all_runs", defArgs (top 54), defBody (top 54), defScope (top 54), [], []⟩
def d_is_integer : He.DefD := ⟨("is_integer", none), "is_integer", "is_integer", defArgs (top 1), defBody (top 1), defScope (top 1), [], []⟩
def d_is_count : He.DefD := ⟨("is_count", none), "is_count", "is_count", defArgs (top 2), defBody (top 2), defScope (top 2), [], []⟩
def d_wants_are_right : He.DefD := ⟨("wants_are_right", none), "wants_are_right", "wants_are_right", defArgs (top 17), defBody (top 17), defScope (top 17), [], []⟩
def d_is_position : He.DefD := ⟨("is_position", none), "is_position", "is_position", defArgs (top 3), defBody (top 3), defScope (top 3), [], []⟩
def d_step_is_right : He.DefD := ⟨("step_is_right", none), "step_is_right", "step_is_right", defArgs (top 18), defBody (top 18), defScope (top 18), [], []⟩
def d_flaw_of : He.DefD := ⟨("flaw_of", none), "flaw_of", "flaw_of", defArgs (top 19), defBody (top 19), defScope (top 19), [], []⟩
def d_check_farm : He.DefD := ⟨("check_farm", none), "check_farm", "check_farm", defArgs (top 22), defBody (top 22), defScope (top 22), [], []⟩
def d_row_is_right : He.DefD := ⟨("row_is_right", none), "row_is_right", "row_is_right", defArgs (top 20), defBody (top 20), defScope (top 20), [], []⟩
def d_place_is_right : He.DefD := ⟨("place_is_right", none), "place_is_right", "place_is_right", defArgs (top 21), defBody (top 21), defScope (top 21), [], []⟩
def d_check_place : He.DefD := ⟨("check_place", none), "check_place", "check_place", defArgs (top 23), defBody (top 23), defScope (top 23), [], []⟩
def d_check_both : He.DefD := ⟨("check_both", none), "check_both", "check_both", defArgs (top 39), defBody (top 39), defScope (top 39), [], []⟩
def d_is_least : He.DefD := ⟨("is_least", none), "is_least", "is_least", defArgs (top 24), defBody (top 24), defScope (top 24), [], []⟩
def d_is_let : He.DefD := ⟨("is_let", none), "is_let", "is_let", defArgs (top 26), defBody (top 26), defScope (top 26), [], []⟩
def d_let_at : He.DefD := ⟨("let_at", none), "let_at", "let_at", defArgs (top 28), defBody (top 28), defScope (top 28), [], []⟩
def d_added : He.DefD := ⟨("added", none), "added", "added", defArgs (top 25), defBody (top 25), defScope (top 25), [], []⟩
def d_led_by : He.DefD := ⟨("led_by", none), "led_by", "led_by", defArgs (top 27), defBody (top 27), defScope (top 27), [], []⟩
def d_next_level : He.DefD := ⟨("next_level", none), "next_level", "next_level", defArgs (top 41), defBody (top 41), defScope (top 41), [], []⟩
def d_is_near : He.DefD := ⟨("is_near", none), "is_near", "is_near", defArgs (top 43), defBody (top 43), defScope (top 43), [], []⟩
def d_first_to : He.DefD := ⟨("first_to", none), "first_to", "first_to", defArgs (top 44), defBody (top 44), defScope (top 44), [], []⟩
def d_great_place_is_right : He.DefD := ⟨("great_place_is_right", none), "great_place_is_right", "great_place_is_right", defArgs (top 38), defBody (top 38), defScope (top 38), [], []⟩
def d_first_run : He.DefD := ⟨("first_run", none), "first_run", "first_run", defArgs (top 46), defBody (top 46), defScope (top 46), [], []⟩
def d_check_within : He.DefD := ⟨("check_within", none), "check_within", "check_within", defArgs (top 40), defBody (top 40), defScope (top 40), [], []⟩
def d_within : He.DefD := ⟨("within", none), "within", "within", defArgs (top 42), defBody (top 42), defScope (top 42), [], []⟩
def d_come_within : He.DefD := ⟨("come_within", none), "come_within", "come_within", defArgs (top 45), defBody (top 45), defScope (top 45), [], []⟩
def d_way_is_right : He.DefD := ⟨("way_is_right", none), "way_is_right", "way_is_right", defArgs (top 31), defBody (top 31), defScope (top 31), [], []⟩
def d_check_way : He.DefD := ⟨("check_way", none), "check_way", "check_way", defArgs (top 32), defBody (top 32), defScope (top 32), [], []⟩
def d_places_along : He.DefD := ⟨("places_along", none), "places_along", "places_along", defArgs (top 33), defBody (top 33), defScope (top 33), [], []⟩
def d_run_places : He.DefD := ⟨("run_places", none), "run_places", "run_places", defArgs (top 34), defBody (top 34), defScope (top 34), [], []⟩
def d__law_right : He.DefD := ⟨("_law_right", none), "_law_right", "_law_right", defArgs (top 55), defBody (top 55), defScope (top 55), [], []⟩
def d__law_pot : He.DefD := ⟨("_law_pot", none), "_law_pot", "_law_pot", defArgs (top 48), defBody (top 48), defScope (top 48), [], []⟩
def d_law : He.DefD := ⟨("law", none), "law", "law", defArgs (top 56), defBody (top 56), defScope (top 56), [], []⟩
structure Mg (K : PySem.W.Frag) (mg : Str → Option Value) : Prop where
  b_abs : mg "abs" = none
  b_all : mg "all" = none
  b_any : mg "any" = none
  b_bool : mg "bool" = none
  b_divmod : mg "divmod" = none
  b_enumerate : mg "enumerate" = none
  b_int : mg "int" = none
  b_isinstance : mg "isinstance" = none
  b_len : mg "len" = none
  b_max : mg "max" = none
  b_range : mg "range" = none
  b_repr : mg "repr" = none
  b_reversed : mg "reversed" = none
  b_sorted : mg "sorted" = none
  b_str : mg "str" = none
  b_tuple : mg "tuple" = none
  b_zip : mg "zip" = none
  i_MOST_EFFECT : ∃ t, mg "MOST_EFFECT" = some (.int 9 t)
  i_MOST_ROW : ∃ t, mg "MOST_ROW" = some (.int 999 t)
  i_MOST_STANDINGS : ∃ t, mg "MOST_STANDINGS" = some (.int 6 t)
  i_MOST_STEPS_farms : ∃ t, mg "MOST_STEPS_farms" = some (.int 12 t)
  i_MOST_STEPS_ways : ∃ t, mg "MOST_STEPS_ways" = some (.int 5000 t)
  i_MOST_STOCKS : ∃ t, mg "MOST_STOCKS" = some (.int 3 t)
  i_MOST_WANT : ∃ t, mg "MOST_WANT" = some (.int 9 t)
  i_MOST_WITHIN : ∃ t, mg "MOST_WITHIN" = some (.int 12 t)
  i_MOST_YIELD : ∃ t, mg "MOST_YIELD" = some (.int 99 t)
  m__law_draw : mg "_law_draw" = some (.ref (He.ga K "_law_draw"))
  D__law_draw : ∃ fd, FunD K d__law_draw.name d__law_draw.qual d__law_draw.params d__law_draw.body d__law_draw.scope [] [] (He.ga K "_law_draw") fd
  m__law_row : mg "_law_row" = some (.ref (He.ga K "_law_row"))
  D__law_row : ∃ fd, FunD K d__law_row.name d__law_row.qual d__law_row.params d__law_row.body d__law_row.scope [] [] (He.ga K "_law_row") fd
  m__law_pick : mg "_law_pick" = some (.ref (He.ga K "_law_pick"))
  D__law_pick : ∃ fd, FunD K d__law_pick.name d__law_pick.qual d__law_pick.params d__law_pick.body d__law_pick.scope [] [] (He.ga K "_law_pick") fd
  m__law_tame : mg "_law_tame" = some (.ref (He.ga K "_law_tame"))
  D__law_tame : ∃ fd, FunD K d__law_tame.name d__law_tame.qual d__law_tame.params d__law_tame.body d__law_tame.scope [] [] (He.ga K "_law_tame") fd
  m__law_is_least : mg "_law_is_least" = some (.ref (He.ga K "_law_is_least"))
  D__law_is_least : ∃ fd, FunD K d__law_is_least.name d__law_is_least.qual d__law_is_least.params d__law_is_least.body d__law_is_least.scope [] [] (He.ga K "_law_is_least") fd
  m__law_all_runs : mg "_law_all_runs" = some (.ref (He.ga K "_law_all_runs"))
  D__law_all_runs : ∃ fd, FunD K d__law_all_runs.name d__law_all_runs.qual d__law_all_runs.params d__law_all_runs.body d__law_all_runs.scope [] [] (He.ga K "_law_all_runs") fd
  m_is_integer : mg "is_integer" = some (.ref (He.ga K "is_integer"))
  D_is_integer : ∃ fd, FunD K d_is_integer.name d_is_integer.qual d_is_integer.params d_is_integer.body d_is_integer.scope [] [] (He.ga K "is_integer") fd
  m_is_count : mg "is_count" = some (.ref (He.ga K "is_count"))
  D_is_count : ∃ fd, FunD K d_is_count.name d_is_count.qual d_is_count.params d_is_count.body d_is_count.scope [] [] (He.ga K "is_count") fd
  m_wants_are_right : mg "wants_are_right" = some (.ref (He.ga K "wants_are_right"))
  D_wants_are_right : ∃ fd, FunD K d_wants_are_right.name d_wants_are_right.qual d_wants_are_right.params d_wants_are_right.body d_wants_are_right.scope [] [] (He.ga K "wants_are_right") fd
  m_is_position : mg "is_position" = some (.ref (He.ga K "is_position"))
  D_is_position : ∃ fd, FunD K d_is_position.name d_is_position.qual d_is_position.params d_is_position.body d_is_position.scope [] [] (He.ga K "is_position") fd
  m_step_is_right : mg "step_is_right" = some (.ref (He.ga K "step_is_right"))
  D_step_is_right : ∃ fd, FunD K d_step_is_right.name d_step_is_right.qual d_step_is_right.params d_step_is_right.body d_step_is_right.scope [] [] (He.ga K "step_is_right") fd
  m_flaw_of : mg "flaw_of" = some (.ref (He.ga K "flaw_of"))
  D_flaw_of : ∃ fd, FunD K d_flaw_of.name d_flaw_of.qual d_flaw_of.params d_flaw_of.body d_flaw_of.scope [] [] (He.ga K "flaw_of") fd
  m_check_farm : mg "check_farm" = some (.ref (He.ga K "check_farm"))
  D_check_farm : ∃ fd, FunD K d_check_farm.name d_check_farm.qual d_check_farm.params d_check_farm.body d_check_farm.scope [] [] (He.ga K "check_farm") fd
  m_row_is_right : mg "row_is_right" = some (.ref (He.ga K "row_is_right"))
  D_row_is_right : ∃ fd, FunD K d_row_is_right.name d_row_is_right.qual d_row_is_right.params d_row_is_right.body d_row_is_right.scope [] [] (He.ga K "row_is_right") fd
  m_place_is_right : mg "place_is_right" = some (.ref (He.ga K "place_is_right"))
  D_place_is_right : ∃ fd, FunD K d_place_is_right.name d_place_is_right.qual d_place_is_right.params d_place_is_right.body d_place_is_right.scope [] [] (He.ga K "place_is_right") fd
  m_check_place : mg "check_place" = some (.ref (He.ga K "check_place"))
  D_check_place : ∃ fd, FunD K d_check_place.name d_check_place.qual d_check_place.params d_check_place.body d_check_place.scope [] [] (He.ga K "check_place") fd
  m_check_both : mg "check_both" = some (.ref (He.ga K "check_both"))
  D_check_both : ∃ fd, FunD K d_check_both.name d_check_both.qual d_check_both.params d_check_both.body d_check_both.scope [] [] (He.ga K "check_both") fd
  m_is_least : mg "is_least" = some (.ref (He.ga K "is_least"))
  D_is_least : ∃ fd, FunD K d_is_least.name d_is_least.qual d_is_least.params d_is_least.body d_is_least.scope [] [] (He.ga K "is_least") fd
  m_is_let : mg "is_let" = some (.ref (He.ga K "is_let"))
  D_is_let : ∃ fd, FunD K d_is_let.name d_is_let.qual d_is_let.params d_is_let.body d_is_let.scope [] [] (He.ga K "is_let") fd
  m_let_at : mg "let_at" = some (.ref (He.ga K "let_at"))
  D_let_at : ∃ fd, FunD K d_let_at.name d_let_at.qual d_let_at.params d_let_at.body d_let_at.scope [] [] (He.ga K "let_at") fd
  m_added : mg "added" = some (.ref (He.ga K "added"))
  D_added : ∃ fd, FunD K d_added.name d_added.qual d_added.params d_added.body d_added.scope [] [] (He.ga K "added") fd
  m_led_by : mg "led_by" = some (.ref (He.ga K "led_by"))
  D_led_by : ∃ fd, FunD K d_led_by.name d_led_by.qual d_led_by.params d_led_by.body d_led_by.scope [] [] (He.ga K "led_by") fd
  m_next_level : mg "next_level" = some (.ref (He.ga K "next_level"))
  D_next_level : ∃ fd, FunD K d_next_level.name d_next_level.qual d_next_level.params d_next_level.body d_next_level.scope [] [] (He.ga K "next_level") fd
  m_is_near : mg "is_near" = some (.ref (He.ga K "is_near"))
  D_is_near : ∃ fd, FunD K d_is_near.name d_is_near.qual d_is_near.params d_is_near.body d_is_near.scope [] [] (He.ga K "is_near") fd
  m_first_to : mg "first_to" = some (.ref (He.ga K "first_to"))
  D_first_to : ∃ fd, FunD K d_first_to.name d_first_to.qual d_first_to.params d_first_to.body d_first_to.scope [] [] (He.ga K "first_to") fd
  m_great_place_is_right : mg "great_place_is_right" = some (.ref (He.ga K "great_place_is_right"))
  D_great_place_is_right : ∃ fd, FunD K d_great_place_is_right.name d_great_place_is_right.qual d_great_place_is_right.params d_great_place_is_right.body d_great_place_is_right.scope [] [] (He.ga K "great_place_is_right") fd
  m_first_run : mg "first_run" = some (.ref (He.ga K "first_run"))
  D_first_run : ∃ fd, FunD K d_first_run.name d_first_run.qual d_first_run.params d_first_run.body d_first_run.scope [] [] (He.ga K "first_run") fd
  m_check_within : mg "check_within" = some (.ref (He.ga K "check_within"))
  D_check_within : ∃ fd, FunD K d_check_within.name d_check_within.qual d_check_within.params d_check_within.body d_check_within.scope [] [] (He.ga K "check_within") fd
  m_within : mg "within" = some (.ref (He.ga K "within"))
  D_within : ∃ fd, FunD K d_within.name d_within.qual d_within.params d_within.body d_within.scope [] [] (He.ga K "within") fd
  m_come_within : mg "come_within" = some (.ref (He.ga K "come_within"))
  D_come_within : ∃ fd, FunD K d_come_within.name d_come_within.qual d_come_within.params d_come_within.body d_come_within.scope [] [] (He.ga K "come_within") fd
  m_way_is_right : mg "way_is_right" = some (.ref (He.ga K "way_is_right"))
  D_way_is_right : ∃ fd, FunD K d_way_is_right.name d_way_is_right.qual d_way_is_right.params d_way_is_right.body d_way_is_right.scope [] [] (He.ga K "way_is_right") fd
  m_check_way : mg "check_way" = some (.ref (He.ga K "check_way"))
  D_check_way : ∃ fd, FunD K d_check_way.name d_check_way.qual d_check_way.params d_check_way.body d_check_way.scope [] [] (He.ga K "check_way") fd
  m_places_along : mg "places_along" = some (.ref (He.ga K "places_along"))
  D_places_along : ∃ fd, FunD K d_places_along.name d_places_along.qual d_places_along.params d_places_along.body d_places_along.scope [] [] (He.ga K "places_along") fd
  m_run_places : mg "run_places" = some (.ref (He.ga K "run_places"))
  D_run_places : ∃ fd, FunD K d_run_places.name d_run_places.qual d_run_places.params d_run_places.body d_run_places.scope [] [] (He.ga K "run_places") fd
  m__law_right : mg "_law_right" = some (.ref (He.ga K "_law_right"))
  D__law_right : ∃ fd, FunD K d__law_right.name d__law_right.qual d__law_right.params d__law_right.body d__law_right.scope [] [] (He.ga K "_law_right") fd
  m__law_pot : mg "_law_pot" = some (.ref (He.ga K "_law_pot"))
  D__law_pot : ∃ fd, FunD K d__law_pot.name d__law_pot.qual d__law_pot.params d__law_pot.body d__law_pot.scope [] [] (He.ga K "_law_pot") fd
  m_law : mg "law" = some (.ref (He.ga K "law"))
  D_law : ∃ fd, FunD K d_law.name d_law.qual d_law.params d_law.body d_law.scope [] [] (He.ga K "law") fd
theorem nd__law_draw : (["pot", "many", "digit"] : List Str).Nodup := by decide +kernel
theorem ok__law_draw {P : Program} {w : World} {K : PySem.W.Frag} {mg : Str → Option Value} {base : Heap} (M : Mg K mg) : Cll P w K mg base 1 d__law_draw ["pot", "many"] F__law_draw := Cll.of (k := 0) (N := ["pot", "many", "digit"]) (b := B__law_draw) M.D__law_draw M.m__law_draw ⟨rfl, rfl, rfl, nd__law_draw, rfl, by decide +kernel, by decide +kernel⟩ (fun cdv A outer s H E hg hr => (ds_cons (ds_if (dt_cmp op_gt oGt (de_ixA hr.u65 (de_var 0) de_int) de_int rfl) (ds_cons (ds_asg (de_callB call_divmod clo_divmod rfl M.b_divmod (da_cons (de_ixA hr.u65 (de_var 0) de_int) (da_cons (de_var 1) da_nil))) (dg_tup rfl (dgs_cons (dg_subA hr.u65 (de_var 0) de_int) (dgs_cons (dg_name 2 nd__law_draw) dgs_nil)))) (ds_one (ds_ret (de_var 2)))) ds_nil) (ds_cons (ds_asg (de_mod (de_callTy call_int1 clo_int1 rfl M.b_int (da_cons (de_add (de_mulA (de_ixA hr.u65 (de_var 0) de_int) de_int) de_int) da_nil)) de_int) (dg_subA hr.u65 (de_var 0) de_int)) (ds_one (ds_ret (de_mod (de_callTy call_int1 clo_int1 rfl M.b_int (da_cons (de_fdiv (de_mod (de_callTy call_int1 clo_int1 rfl M.b_int (da_cons (de_mulA (de_ixA hr.u65 (de_var 0) de_int) (de_ixA hr.u65 (de_var 0) de_int)) da_nil)) de_int) de_int) da_nil)) (de_var 1)))))))
theorem bd__law_draw : Bnd d__law_draw ["pot", "many"] 2 [] [0, 1] := fun kV doc pm an cdv ct us ws h1 h2 => match us, ws, h1, h2 with | [_, _], [], _, _ => rfl
theorem hl__law_draw : ∀ l : List D, l.length = 2 + 0 → (pick [0, 1] l).length = (["pot", "many"] : List Str).length := fun l h => match l, h with | [_, _], _ => rfl
theorem nd__law_row : (["pot", "stocks", "most", "stock"] : List Str).Nodup := by decide +kernel
theorem ok__law_row {P : Program} {w : World} {K : PySem.W.Frag} {mg : Str → Option Value} {base : Heap} (M : Mg K mg) : Cll P w K mg base 2 d__law_row ["pot", "stocks", "most"] F__law_row := Cll.of (k := 1) (N := ["pot", "stocks", "most", "stock"]) (b := B__law_row) M.D__law_row M.m__law_row ⟨rfl, rfl, rfl, nd__law_row, rfl, by decide +kernel, by decide +kernel⟩ (fun cdv A outer s H E hg hr => (ds_one (ds_ret (de_callTy call_tuple_of clo_tupOf rfl M.b_tuple (da_cons (de_val (dl_lc (own := [("stock", 3)]) rfl nd__law_row (di_rng1 rfl M.b_range (da_cons (de_var 1) da_nil)) rfl (fun _ _ _ _ _ => (pg_name nd__law_row rfl (by first | exact .inl rfl | exact .inr rfl))) (fun _ _ _ _ _ => (pts_yes rfl)) (fun _ _ _ _ _ => (de_call (ok__law_draw M) (by decide) hr hg rfl rfl bd__law_draw hl__law_draw (da_cons (de_var 0) (da_cons (de_add (de_var 2) de_int) da_nil)))))) da_nil)))))
theorem bd__law_row : Bnd d__law_row ["pot", "stocks", "most"] 3 [] [0, 1, 2] := fun kV doc pm an cdv ct us ws h1 h2 => match us, ws, h1, h2 with | [_, _, _], [], _, _ => rfl
theorem hl__law_row : ∀ l : List D, l.length = 3 + 0 → (pick [0, 1, 2] l).length = (["pot", "stocks", "most"] : List Str).length := fun l h => match l, h with | [_, _, _], _ => rfl
theorem nd__law_pick : (["pot", "some"] : List Str).Nodup := by decide +kernel
theorem ok__law_pick {P : Program} {w : World} {K : PySem.W.Frag} {mg : Str → Option Value} {base : Heap} (M : Mg K mg) : Cll P w K mg base 2 d__law_pick ["pot", "some"] F__law_pick := Cll.of (k := 1) (N := ["pot", "some"]) (b := B__law_pick) M.D__law_pick M.m__law_pick ⟨rfl, rfl, rfl, nd__law_pick, rfl, by decide +kernel, by decide +kernel⟩ (fun cdv A outer s H E hg hr => (ds_one (ds_ret (de_ixA hr.u65 (de_var 1) (de_call (ok__law_draw M) (by decide) hr hg rfl rfl bd__law_draw hl__law_draw (da_cons (de_var 0) (da_cons (de_callB (Dl.CallR.or call_len_seq call_len_str) clo_len rfl M.b_len (da_cons (de_var 1) da_nil)) da_nil)))))))
theorem bd__law_pick : Bnd d__law_pick ["pot", "some"] 2 [] [0, 1] := fun kV doc pm an cdv ct us ws h1 h2 => match us, ws, h1, h2 with | [_, _], [], _, _ => rfl
theorem hl__law_pick : ∀ l : List D, l.length = 2 + 0 → (pick [0, 1] l).length = (["pot", "some"] : List Str).length := fun l h => match l, h with | [_, _], _ => rfl
theorem nd__law_tame : (["pot", "standings", "stocks", "steps", "kind", "at", "farm", "effects", "wants", "stock", "one"] : List Str).Nodup := by decide +kernel
theorem ok__law_tame {P : Program} {w : World} {K : PySem.W.Frag} {mg : Str → Option Value} {base : Heap} (M : Mg K mg) : Cll P w K mg base 3 d__law_tame ["pot"] F__law_tame := Cll.of (k := 2) (N := ["pot", "standings", "stocks", "steps", "kind", "at", "farm", "effects", "wants", "stock", "one"]) (b := B__law_tame) M.D__law_tame M.m__law_tame ⟨rfl, rfl, rfl, nd__law_tame, rfl, by decide +kernel, by decide +kernel⟩ (fun cdv A outer s H E hg hr => (ds_cons (ds_par 1 2 rfl nd__law_tame (da_cons (de_add de_int (de_call (ok__law_draw M) (by decide) hr hg rfl rfl bd__law_draw hl__law_draw (da_cons (de_var 0) (da_cons de_int da_nil)))) (da_cons (de_add de_int (de_call (ok__law_draw M) (by decide) hr hg rfl rfl bd__law_draw hl__law_draw (da_cons (de_var 0) (da_cons de_int da_nil)))) da_nil))) (ds_cons (ds_un (de_tup (da_cons (de_new (dl_lst da_nil len0)) (da_cons (de_call (ok__law_draw M) (by decide) hr hg rfl rfl bd__law_draw hl__law_draw (da_cons (de_var 0) (da_cons de_int da_nil))) da_nil)) (lenS (lenS len0))) (pg_tup rfl (pgs_cons (pg_name nd__law_tame rfl (by first | exact .inl rfl | exact .inr rfl)) (pgs_cons (pg_name nd__law_tame rfl (by first | exact .inl rfl | exact .inr rfl)) pgs_nil)))) (ds_cons (ds_for PassesOwn.never rfl (di_rng1 rfl M.b_range (da_cons (de_add de_int (de_call (ok__law_draw M) (by decide) hr hg rfl rfl bd__law_draw hl__law_draw (da_cons (de_var 0) (da_cons de_int da_nil)))) da_nil)) (pg_name nd__law_tame rfl (by first | exact .inl rfl | exact .inr rfl)) (ds_cons (ds_set 7 nd__law_tame (de_callTy call_tuple_of clo_tupOf rfl M.b_tuple (da_cons (de_val (dl_lc (own := [("stock", 9)]) rfl nd__law_tame (di_rng1 rfl M.b_range (da_cons (de_var 2) da_nil)) rfl (fun _ _ _ _ _ => (pg_name nd__law_tame rfl (by first | exact .inl rfl | exact .inr rfl))) (fun _ _ _ _ _ => (pts_yes rfl)) (fun _ _ _ _ _ => (de_call (ok__law_pick M) (by decide) hr hg rfl rfl bd__law_pick hl__law_pick (da_cons (de_var 0) (da_cons (de_ifx (dt_cmp op_gt oGt (de_var 4) de_int rfl) (de_val (dl_lst (da_cons (de_neg de_int) (da_cons (de_neg de_int) (da_cons (de_neg de_int) (da_cons de_int (da_cons de_int da_nil))))) (lenS (lenS (lenS (lenS (lenS len0))))))) (de_val (dl_lst (da_cons (de_neg de_int) (da_cons (de_neg de_int) (da_cons (de_neg de_int) (da_cons de_int (da_cons de_int da_nil))))) (lenS (lenS (lenS (lenS (lenS len0)))))))) da_nil)))))) da_nil))) (ds_cons (ds_set 8 nd__law_tame (de_callTy call_tuple_of clo_tupOf rfl M.b_tuple (da_cons (de_val (dl_lc (own := [("one", 10)]) rfl nd__law_tame (di_it (de_var 7)) rfl (fun _ _ _ _ _ => (pg_name nd__law_tame rfl (by first | exact .inl rfl | exact .inr rfl))) (fun _ _ _ _ _ => (pts_yes rfl)) (fun _ _ _ _ _ => (de_add (de_callB (call_max2 rfl) clo_max2 rfl M.b_max (da_cons de_int (da_cons (de_sub de_int (de_var 10)) da_nil))) (de_call (ok__law_pick M) (by decide) hr hg rfl rfl bd__law_pick hl__law_pick (da_cons (de_var 0) (da_cons (de_val (dl_lst (da_cons de_int (da_cons de_int (da_cons de_int (da_cons de_int da_nil)))) (lenS (lenS (lenS (lenS len0)))))) da_nil))))))) da_nil))) (ds_one (ds_expr (de_append (de_var 3) (da_cons (de_tup (da_cons de_str (da_cons (de_call (ok__law_draw M) (by decide) hr hg rfl rfl bd__law_draw hl__law_draw (da_cons (de_var 0) (da_cons (de_var 1) da_nil))) (da_cons (de_call (ok__law_draw M) (by decide) hr hg rfl rfl bd__law_draw hl__law_draw (da_cons (de_var 0) (da_cons (de_var 1) da_nil))) (da_cons (de_var 8) (da_cons (de_var 7) (da_cons de_int da_nil)))))) (lenS (lenS (lenS (lenS (lenS (lenS len0))))))) da_nil))))))) (ds_cons (ds_set 6 nd__law_tame (de_tup (da_cons de_str (da_cons (de_var 1) (da_cons (de_var 2) (da_cons (de_callTy call_tuple_of clo_tupOf rfl M.b_tuple (da_cons (de_var 3) da_nil)) da_nil)))) (lenS (lenS (lenS (lenS len0)))))) (ds_one (ds_ret (de_tup (da_cons (de_var 6) (da_cons (de_tup (da_cons (de_call (ok__law_draw M) (by decide) hr hg rfl rfl bd__law_draw hl__law_draw (da_cons (de_var 0) (da_cons (de_var 1) da_nil))) (da_cons (de_call (ok__law_row M) (by decide) hr hg rfl rfl bd__law_row hl__law_row (da_cons (de_var 0) (da_cons (de_var 2) (da_cons (de_call (ok__law_pick M) (by decide) hr hg rfl rfl bd__law_pick hl__law_pick (da_cons (de_var 0) (da_cons (de_val (dl_lst (da_cons de_int (da_cons de_int (da_cons de_int da_nil))) (lenS (lenS (lenS len0))))) da_nil))) da_nil)))) da_nil)) (lenS (lenS len0))) da_nil)) (lenS (lenS len0))))))))))
theorem bd__law_tame : Bnd d__law_tame ["pot"] 1 [] [0] := fun kV doc pm an cdv ct us ws h1 h2 => match us, ws, h1, h2 with | [_], [], _, _ => rfl
theorem hl__law_tame : ∀ l : List D, l.length = 1 + 0 → (pick [0] l).length = (["pot"] : List Str).length := fun l h => match l, h with | [_], _ => rfl
theorem nd__law_is_least : (["row", "other", "one", "its"] : List Str).Nodup := by decide +kernel
theorem ok__law_is_least {P : Program} {w : World} {K : PySem.W.Frag} {mg : Str → Option Value} {base : Heap} (M : Mg K mg) : Cll P w K mg base 1 d__law_is_least ["row", "other"] F__law_is_least := Cll.of (k := 0) (N := ["row", "other", "one", "its"]) (b := B__law_is_least) M.D__law_is_least M.m__law_is_least ⟨rfl, rfl, rfl, nd__law_is_least, rfl, by decide +kernel, by decide +kernel⟩ (fun cdv A outer s H E hg hr => (ds_one (ds_ret (de_not (de_callB (cr_any rfl) clo_any rfl M.b_any (da_cons (de_val (dl_lc (own := [("one", 2), ("its", 3)]) rfl nd__law_is_least (di_zip rfl M.b_zip (da_cons (de_var 0) (da_cons (de_var 1) da_nil))) rfl (fun _ _ _ _ _ => (pg_tup rfl (pgs_cons (pg_name nd__law_is_least rfl (by first | exact .inl rfl | exact .inr rfl)) (pgs_cons (pg_name nd__law_is_least rfl (by first | exact .inl rfl | exact .inr rfl)) pgs_nil)))) (fun _ _ _ _ _ => (pts_yes rfl)) (fun _ _ _ _ _ => (de_cmp op_lt oLt (de_var 2) (de_var 3) rfl)))) da_nil))))))
theorem bd__law_is_least : Bnd d__law_is_least ["row", "other"] 2 [] [0, 1] := fun kV doc pm an cdv ct us ws h1 h2 => match us, ws, h1, h2 with | [_, _], [], _, _ => rfl
theorem hl__law_is_least : ∀ l : List D, l.length = 2 + 0 → (pick [0, 1] l).length = (["row", "other"] : List Str).length := fun l h => match l, h with | [_, _], _ => rfl
theorem nd__law_all_runs : (["farm", "place", "many", "found", "turn", "longer", "way", "here", "at", "step", "one", "more"] : List Str).Nodup := by decide +kernel
theorem ok__law_all_runs {P : Program} {w : World} {K : PySem.W.Frag} {mg : Str → Option Value} {base : Heap} (M : Mg K mg) : Cll P w K mg base 2 d__law_all_runs ["farm", "place", "many"] F__law_all_runs := Cll.of (k := 1) (N := ["farm", "place", "many", "found", "turn", "longer", "way", "here", "at", "step", "one", "more"]) (b := B__law_all_runs) M.D__law_all_runs M.m__law_all_runs ⟨rfl, rfl, rfl, nd__law_all_runs, rfl, by decide +kernel, by decide +kernel⟩ (fun cdv A outer s H E hg hr => (ds_cons (ds_set 3 nd__law_all_runs (de_new (dl_lst (da_cons (de_val (dl_lst (da_cons (de_tup (da_cons (de_tup da_nil len0) (da_cons (de_var 1) da_nil)) (lenS (lenS len0))) da_nil) (lenS len0))) da_nil) (lenS len0)))) (ds_cons (ds_for PassesOwn.never rfl (di_rng1 rfl M.b_range (da_cons (de_var 2) da_nil)) (pg_name nd__law_all_runs rfl (by first | exact .inl rfl | exact .inr rfl)) (ds_cons (ds_set 5 nd__law_all_runs (de_new (dl_lst da_nil len0))) (ds_cons (ds_for PassesOwn.never rfl (di_it (de_ixA hr.u65 (de_var 3) (de_neg de_int))) (pg_tup rfl (pgs_cons (pg_name nd__law_all_runs rfl (by first | exact .inl rfl | exact .inr rfl)) (pgs_cons (pg_name nd__law_all_runs rfl (by first | exact .inl rfl | exact .inr rfl)) pgs_nil))) (ds_one (ds_for PassesOwn.never rfl (di_enumA rfl M.b_enumerate (da_cons (de_ixA hr.u65 (de_var 0) de_int) da_nil)) (pg_tup rfl (pgs_cons (pg_name nd__law_all_runs rfl (by first | exact .inl rfl | exact .inr rfl)) (pgs_cons (pg_name nd__law_all_runs rfl (by first | exact .inl rfl | exact .inr rfl)) pgs_nil))) (ds_one (ds_if (L2.PW.pt (dw_and (dt_cmp (op_eqA hr.units) o_eqA (de_ixA hr.u65 (de_var 9) de_int) (de_ixA hr.u65 (de_var 7) de_int) rfl) (pw_and1 (dt_val (de_call (ok__law_is_least M) (by decide) hr hg rfl rfl bd__law_is_least hl__law_is_least (da_cons (de_ixA hr.u65 (de_var 7) de_int) (da_cons (de_ixA hr.u65 (de_var 9) de_int) da_nil))))))) (ds_one (ds_expr (de_append (de_var 5) (da_cons (de_tup (da_cons (de_add (de_var 6) (de_tup (da_cons (de_var 8) da_nil) (lenS len0))) (da_cons (de_tup (da_cons (de_ixA hr.u65 (de_var 9) de_int) (da_cons (de_callTy call_tuple_of clo_tupOf rfl M.b_tuple (da_cons (de_val (dl_lc (own := [("one", 10), ("more", 11)]) rfl nd__law_all_runs (di_zip rfl M.b_zip (da_cons (de_ixA hr.u65 (de_var 7) de_int) (da_cons (de_ixA hr.u65 (de_var 9) de_int) da_nil))) rfl (fun _ _ _ _ _ => (pg_tup rfl (pgs_cons (pg_name nd__law_all_runs rfl (by first | exact .inl rfl | exact .inr rfl)) (pgs_cons (pg_name nd__law_all_runs rfl (by first | exact .inl rfl | exact .inr rfl)) pgs_nil)))) (fun _ _ _ _ _ => (pts_yes rfl)) (fun _ _ _ _ _ => (de_add (de_var 10) (de_var 11))))) da_nil)) da_nil)) (lenS (lenS len0))) da_nil)) (lenS (lenS len0))) da_nil)))) ds_nil))))) (ds_one (ds_expr (de_append (de_var 3) (da_cons (de_fz (de_var 5)) da_nil))))))) (ds_one (ds_ret (de_fz (de_var 3)))))))
theorem bd__law_all_runs : Bnd d__law_all_runs ["farm", "place", "many"] 3 [] [0, 1, 2] := fun kV doc pm an cdv ct us ws h1 h2 => match us, ws, h1, h2 with | [_, _, _], [], _, _ => rfl
theorem hl__law_all_runs : ∀ l : List D, l.length = 3 + 0 → (pick [0, 1, 2] l).length = (["farm", "place", "many"] : List Str).length := fun l h => match l, h with | [_, _, _], _ => rfl
theorem nd_is_integer : (["value"] : List Str).Nodup := by decide +kernel
theorem ok_is_integer {P : Program} {w : World} {K : PySem.W.Frag} {mg : Str → Option Value} {base : Heap} (M : Mg K mg) : Cll P w K mg base 1 d_is_integer ["value"] F_is_integer := Cll.of (k := 0) (N := ["value"]) (b := B_is_integer) M.D_is_integer M.m_is_integer ⟨rfl, rfl, rfl, nd_is_integer, rfl, by decide +kernel, by decide +kernel⟩ (fun cdv A outer s H E hg hr => (ds_one (ds_ret (de_and (de_callB call_isi clo_isi rfl M.b_isinstance (da_cons (de_var 0) (da_cons (de_ty "int" rfl M.b_int) da_nil))) (de_one (de_not (de_callB call_isi clo_isi rfl M.b_isinstance (da_cons (de_var 0) (da_cons (de_ty "bool" rfl M.b_bool) da_nil)))))))))
theorem bd_is_integer : Bnd d_is_integer ["value"] 1 [] [0] := fun kV doc pm an cdv ct us ws h1 h2 => match us, ws, h1, h2 with | [_], [], _, _ => rfl
theorem hl_is_integer : ∀ l : List D, l.length = 1 + 0 → (pick [0] l).length = (["value"] : List Str).length := fun l h => match l, h with | [_], _ => rfl
theorem nd_is_count : (["value"] : List Str).Nodup := by decide +kernel
theorem ok_is_count {P : Program} {w : World} {K : PySem.W.Frag} {mg : Str → Option Value} {base : Heap} (M : Mg K mg) : Cll P w K mg base 2 d_is_count ["value"] F_is_count := Cll.of (k := 1) (N := ["value"]) (b := B_is_count) M.D_is_count M.m_is_count ⟨rfl, rfl, rfl, nd_is_count, rfl, by decide +kernel, by decide +kernel⟩ (fun cdv A outer s H E hg hr => (ds_one (ds_ret (de_and (de_call (ok_is_integer M) (by decide) hr hg rfl rfl bd_is_integer hl_is_integer (da_cons (de_var 0) da_nil)) (de_one (de_cmp op_ge oGe (de_var 0) de_int rfl))))))
theorem bd_is_count : Bnd d_is_count ["value"] 1 [] [0] := fun kV doc pm an cdv ct us ws h1 h2 => match us, ws, h1, h2 with | [_], [], _, _ => rfl
theorem hl_is_count : ∀ l : List D, l.length = 1 + 0 → (pick [0] l).length = (["value"] : List Str).length := fun l h => match l, h with | [_], _ => rfl
theorem nd_wants_are_right : (["stocks", "wants", "effects", "want", "more", "one"] : List Str).Nodup := by decide +kernel
theorem ok_wants_are_right {P : Program} {w : World} {K : PySem.W.Frag} {mg : Str → Option Value} {base : Heap} (M : Mg K mg) : Cll P w K mg base 3 d_wants_are_right ["stocks", "wants", "effects"] F_wants_are_right := Cll.of (k := 2) (N := ["stocks", "wants", "effects", "want", "more", "one"]) (b := B_wants_are_right) M.D_wants_are_right M.m_wants_are_right ⟨rfl, rfl, rfl, nd_wants_are_right, rfl, by decide +kernel, by decide +kernel⟩ (fun cdv A outer s H E hg hr => (ds_cons (ds_if (L2.PW.pt (dw_or (dt_not (dt_val (de_callB call_isi clo_isi rfl M.b_isinstance (da_cons (de_var 1) (da_cons (de_ty "tuple" rfl M.b_tuple) da_nil))))) (dw_or (dt_not (dt_val (de_callB call_isi clo_isi rfl M.b_isinstance (da_cons (de_var 2) (da_cons (de_ty "tuple" rfl M.b_tuple) da_nil))))) (pw_or1 (dt_not (dt_chain (op_eqA hr.units) (op_eqA hr.units) o_eqA o_eqA (de_callB (Dl.CallR.or call_len_seq call_len_str) clo_len rfl M.b_len (da_cons (de_var 1) da_nil)) (de_callB (Dl.CallR.or call_len_seq call_len_str) clo_len rfl M.b_len (da_cons (de_var 2) da_nil)) (de_var 0))))))) (ds_one (ds_ret de_bl)) ds_nil) (ds_cons (ds_if (dt_not (dt_val (de_callB (cr_all rfl) clo_all rfl M.b_all (da_cons (de_val (dl_lc (own := [("one", 5)]) rfl nd_wants_are_right (di_it (de_var 1)) rfl (fun _ _ _ _ _ => (pg_name nd_wants_are_right rfl (by first | exact .inl rfl | exact .inr rfl))) (fun _ _ _ _ _ => (pts_yes rfl)) (fun _ _ _ _ _ => (de_and (de_call (ok_is_count M) (by decide) hr hg rfl rfl bd_is_count hl_is_count (da_cons (de_var 5) da_nil)) (de_one (de_cmp op_le oLe (de_var 5) (de_gint rfl M.i_MOST_WANT) rfl)))))) da_nil)))) (ds_one (ds_ret de_bl)) ds_nil) (ds_cons (ds_if (dt_not (dt_val (de_callB (cr_all rfl) clo_all rfl M.b_all (da_cons (de_val (dl_lc (own := [("one", 5)]) rfl nd_wants_are_right (di_it (de_var 2)) rfl (fun _ _ _ _ _ => (pg_name nd_wants_are_right rfl (by first | exact .inl rfl | exact .inr rfl))) (fun _ _ _ _ _ => (pts_yes rfl)) (fun _ _ _ _ _ => (de_and (de_call (ok_is_integer M) (by decide) hr hg rfl rfl bd_is_integer hl_is_integer (da_cons (de_var 5) da_nil)) (de_one (de_cmp op_le oLe (de_callB call_abs clo_abs rfl M.b_abs (da_cons (de_var 5) da_nil)) (de_gint rfl M.i_MOST_WANT) rfl)))))) da_nil)))) (ds_one (ds_ret de_bl)) ds_nil) (ds_one (ds_ret (de_callB (cr_all rfl) clo_all rfl M.b_all (da_cons (de_val (dl_lc (own := [("want", 3), ("more", 4)]) rfl nd_wants_are_right (di_zip rfl M.b_zip (da_cons (de_var 1) (da_cons (de_var 2) da_nil))) rfl (fun _ _ _ _ _ => (pg_tup rfl (pgs_cons (pg_name nd_wants_are_right rfl (by first | exact .inl rfl | exact .inr rfl)) (pgs_cons (pg_name nd_wants_are_right rfl (by first | exact .inl rfl | exact .inr rfl)) pgs_nil)))) (fun _ _ _ _ _ => (pts_yes rfl)) (fun _ _ _ _ _ => (de_cmp op_ge oGe (de_add (de_var 3) (de_var 4)) de_int rfl)))) da_nil))))))))
theorem bd_wants_are_right : Bnd d_wants_are_right ["stocks", "wants", "effects"] 3 [] [0, 1, 2] := fun kV doc pm an cdv ct us ws h1 h2 => match us, ws, h1, h2 with | [_, _, _], [], _, _ => rfl
theorem hl_wants_are_right : ∀ l : List D, l.length = 3 + 0 → (pick [0, 1, 2] l).length = (["stocks", "wants", "effects"] : List Str).length := fun l h => match l, h with | [_, _, _], _ => rfl
theorem nd_is_position : (["value", "many"] : List Str).Nodup := by decide +kernel
theorem ok_is_position {P : Program} {w : World} {K : PySem.W.Frag} {mg : Str → Option Value} {base : Heap} (M : Mg K mg) : Cll P w K mg base 2 d_is_position ["value", "many"] F_is_position := Cll.of (k := 1) (N := ["value", "many"]) (b := B_is_position) M.D_is_position M.m_is_position ⟨rfl, rfl, rfl, nd_is_position, rfl, by decide +kernel, by decide +kernel⟩ (fun cdv A outer s H E hg hr => (ds_one (ds_ret (de_and (de_call (ok_is_integer M) (by decide) hr hg rfl rfl bd_is_integer hl_is_integer (da_cons (de_var 0) da_nil)) (de_one (de_chain op_le op_lt oLe oLt de_int (de_var 0) (de_var 1)))))))
theorem bd_is_position : Bnd d_is_position ["value", "many"] 2 [] [0, 1] := fun kV doc pm an cdv ct us ws h1 h2 => match us, ws, h1, h2 with | [_, _], [], _, _ => rfl
theorem hl_is_position : ∀ l : List D, l.length = 2 + 0 → (pick [0, 1] l).length = (["value", "many"] : List Str).length := fun l h => match l, h with | [_, _], _ => rfl
theorem nd_step_is_right : (["standings", "stocks", "value"] : List Str).Nodup := by decide +kernel
theorem ok_step_is_right {P : Program} {w : World} {K : PySem.W.Frag} {mg : Str → Option Value} {base : Heap} (M : Mg K mg) : Cll P w K mg base 4 d_step_is_right ["standings", "stocks", "value"] F_step_is_right := Cll.of (k := 3) (N := ["standings", "stocks", "value"]) (b := B_step_is_right) M.D_step_is_right M.m_step_is_right ⟨rfl, rfl, rfl, nd_step_is_right, rfl, by decide +kernel, by decide +kernel⟩ (fun cdv A outer s H E hg hr => (ds_cons (ds_if (L2.PW.pt (dw_or (dt_not (dt_val (de_callB call_isi clo_isi rfl M.b_isinstance (da_cons (de_var 2) (da_cons (de_ty "tuple" rfl M.b_tuple) da_nil))))) (dw_or (dt_cmp (op_neA hr.units) o_neA (de_callB (Dl.CallR.or call_len_seq call_len_str) clo_len rfl M.b_len (da_cons (de_var 2) da_nil)) de_int rfl) (dw_or (dt_not (dt_val (de_callB call_isi clo_isi rfl M.b_isinstance (da_cons (de_ixA hr.u65 (de_var 2) de_int) (da_cons (de_ty "str" rfl M.b_str) da_nil))))) (pw_or1 (dt_cmp (op_neA hr.units) o_neA (de_ixA hr.u65 (de_var 2) de_int) de_str rfl)))))) (ds_one (ds_ret de_bl)) ds_nil) (ds_cons (ds_if (L2.PW.pt (dw_or (dt_not (dt_val (de_call (ok_is_position M) (by decide) hr hg rfl rfl bd_is_position hl_is_position (da_cons (de_ixA hr.u65 (de_var 2) de_int) (da_cons (de_var 0) da_nil))))) (pw_or1 (dt_not (dt_val (de_call (ok_is_position M) (by decide) hr hg rfl rfl bd_is_position hl_is_position (da_cons (de_ixA hr.u65 (de_var 2) de_int) (da_cons (de_var 0) da_nil)))))))) (ds_one (ds_ret de_bl)) ds_nil) (ds_one (ds_ret (de_and (de_call (ok_wants_are_right M) (by decide) hr hg rfl rfl bd_wants_are_right hl_wants_are_right (da_cons (de_var 1) (da_cons (de_ixA hr.u65 (de_var 2) de_int) (da_cons (de_ixA hr.u65 (de_var 2) de_int) da_nil)))) (de_and (de_call (ok_is_count M) (by decide) hr hg rfl rfl bd_is_count hl_is_count (da_cons (de_ixA hr.u65 (de_var 2) de_int) da_nil)) (de_one (de_cmp op_le oLe (de_ixA hr.u65 (de_var 2) de_int) (de_gint rfl M.i_MOST_YIELD) rfl)))))))))
theorem bd_step_is_right : Bnd d_step_is_right ["standings", "stocks", "value"] 3 [] [0, 1, 2] := fun kV doc pm an cdv ct us ws h1 h2 => match us, ws, h1, h2 with | [_, _, _], [], _, _ => rfl
theorem hl_step_is_right : ∀ l : List D, l.length = 3 + 0 → (pick [0, 1, 2] l).length = (["standings", "stocks", "value"] : List Str).length := fun l h => match l, h with | [_, _, _], _ => rfl
theorem nd_flaw_of : (["value", "step"] : List Str).Nodup := by decide +kernel
theorem ok_flaw_of {P : Program} {w : World} {K : PySem.W.Frag} {mg : Str → Option Value} {base : Heap} (M : Mg K mg) : Cll P w K mg base 5 d_flaw_of ["value"] F_flaw_of := Cll.of (k := 4) (N := ["value", "step"]) (b := B_flaw_of) M.D_flaw_of M.m_flaw_of ⟨rfl, rfl, rfl, nd_flaw_of, rfl, by decide +kernel, by decide +kernel⟩ (fun cdv A outer s H E hg hr => (ds_cons (ds_if (L2.PW.pt (dw_or (dt_not (dt_val (de_callB call_isi clo_isi rfl M.b_isinstance (da_cons (de_var 0) (da_cons (de_ty "tuple" rfl M.b_tuple) da_nil))))) (dw_or (dt_cmp (op_neA hr.units) o_neA (de_callB (Dl.CallR.or call_len_seq call_len_str) clo_len rfl M.b_len (da_cons (de_var 0) da_nil)) de_int rfl) (dw_or (dt_not (dt_val (de_callB call_isi clo_isi rfl M.b_isinstance (da_cons (de_ixA hr.u65 (de_var 0) de_int) (da_cons (de_ty "str" rfl M.b_str) da_nil))))) (pw_or1 (dt_cmp (op_neA hr.units) o_neA (de_ixA hr.u65 (de_var 0) de_int) de_str rfl)))))) (ds_one (ds_ret de_str)) ds_nil) (ds_cons (ds_if (L2.PW.pt (dw_or (dt_not (dt_val (de_call (ok_is_integer M) (by decide) hr hg rfl rfl bd_is_integer hl_is_integer (da_cons (de_ixA hr.u65 (de_var 0) de_int) da_nil)))) (pw_or1 (dt_not (dt_chain op_le op_le oLe oLe de_int (de_ixA hr.u65 (de_var 0) de_int) (de_gint rfl M.i_MOST_STANDINGS)))))) (ds_one (ds_ret de_str)) ds_nil) (ds_cons (ds_if (L2.PW.pt (dw_or (dt_not (dt_val (de_call (ok_is_integer M) (by decide) hr hg rfl rfl bd_is_integer hl_is_integer (da_cons (de_ixA hr.u65 (de_var 0) de_int) da_nil)))) (pw_or1 (dt_not (dt_chain op_le op_le oLe oLe de_int (de_ixA hr.u65 (de_var 0) de_int) (de_gint rfl M.i_MOST_STOCKS)))))) (ds_one (ds_ret de_str)) ds_nil) (ds_cons (ds_if (L2.PW.pt (dw_or (dt_not (dt_val (de_callB call_isi clo_isi rfl M.b_isinstance (da_cons (de_ixA hr.u65 (de_var 0) de_int) (da_cons (de_ty "tuple" rfl M.b_tuple) da_nil))))) (pw_or1 (dt_cmp op_gt oGt (de_callB (Dl.CallR.or call_len_seq call_len_str) clo_len rfl M.b_len (da_cons (de_ixA hr.u65 (de_var 0) de_int) da_nil)) (de_gint rfl M.i_MOST_STEPS_farms) rfl)))) (ds_one (ds_ret de_str)) ds_nil) (ds_one (ds_ret (de_ifx (dt_val (de_callB (cr_all rfl) clo_all rfl M.b_all (da_cons (de_val (dl_lc (own := [("step", 1)]) rfl nd_flaw_of (di_it (de_ixA hr.u65 (de_var 0) de_int)) rfl (fun _ _ _ _ _ => (pg_name nd_flaw_of rfl (by first | exact .inl rfl | exact .inr rfl))) (fun _ _ _ _ _ => (pts_yes rfl)) (fun _ _ _ _ _ => (de_call (ok_step_is_right M) (by decide) hr hg rfl rfl bd_step_is_right hl_step_is_right (da_cons (de_ixA hr.u65 (de_var 0) de_int) (da_cons (de_ixA hr.u65 (de_var 0) de_int) (da_cons (de_var 1) da_nil))))))) da_nil))) de_non de_str))))))))
theorem bd_flaw_of : Bnd d_flaw_of ["value"] 1 [] [0] := fun kV doc pm an cdv ct us ws h1 h2 => match us, ws, h1, h2 with | [_], [], _, _ => rfl
theorem hl_flaw_of : ∀ l : List D, l.length = 1 + 0 → (pick [0] l).length = (["value"] : List Str).length := fun l h => match l, h with | [_], _ => rfl
theorem nd_check_farm : (["farm"] : List Str).Nodup := by decide +kernel
theorem ok_check_farm {P : Program} {w : World} {K : PySem.W.Frag} {mg : Str → Option Value} {base : Heap} (M : Mg K mg) : Cll P w K mg base 6 d_check_farm ["farm"] F_check_farm := Cll.of (k := 5) (N := ["farm"]) (b := B_check_farm) M.D_check_farm M.m_check_farm ⟨rfl, rfl, rfl, nd_check_farm, rfl, by decide +kernel, by decide +kernel⟩ (fun cdv A outer s H E hg hr => (ds_one (ds_if (dt_cmp op_notA o_isnot (de_call (ok_flaw_of M) (by decide) hr hg rfl rfl bd_flaw_of hl_flaw_of (da_cons (de_var 0) da_nil)) de_non rfl) (ds_one ds_never) ds_nil)))
theorem bd_check_farm : Bnd d_check_farm ["farm"] 1 [] [0] := fun kV doc pm an cdv ct us ws h1 h2 => match us, ws, h1, h2 with | [_], [], _, _ => rfl
theorem hl_check_farm : ∀ l : List D, l.length = 1 + 0 → (pick [0] l).length = (["farm"] : List Str).length := fun l h => match l, h with | [_], _ => rfl
theorem nd_row_is_right : (["stocks", "value", "number"] : List Str).Nodup := by decide +kernel
theorem ok_row_is_right {P : Program} {w : World} {K : PySem.W.Frag} {mg : Str → Option Value} {base : Heap} (M : Mg K mg) : Cll P w K mg base 3 d_row_is_right ["stocks", "value"] F_row_is_right := Cll.of (k := 2) (N := ["stocks", "value", "number"]) (b := B_row_is_right) M.D_row_is_right M.m_row_is_right ⟨rfl, rfl, rfl, nd_row_is_right, rfl, by decide +kernel, by decide +kernel⟩ (fun cdv A outer s H E hg hr => (ds_cons (ds_if (L2.PW.pt (dw_or (dt_not (dt_val (de_callB call_isi clo_isi rfl M.b_isinstance (da_cons (de_var 1) (da_cons (de_ty "tuple" rfl M.b_tuple) da_nil))))) (pw_or1 (dt_cmp (op_neA hr.units) o_neA (de_callB (Dl.CallR.or call_len_seq call_len_str) clo_len rfl M.b_len (da_cons (de_var 1) da_nil)) (de_var 0) rfl)))) (ds_one (ds_ret de_bl)) ds_nil) (ds_one (ds_ret (de_callB (cr_all rfl) clo_all rfl M.b_all (da_cons (de_val (dl_lc (own := [("number", 2)]) rfl nd_row_is_right (di_it (de_var 1)) rfl (fun _ _ _ _ _ => (pg_name nd_row_is_right rfl (by first | exact .inl rfl | exact .inr rfl))) (fun _ _ _ _ _ => (pts_yes rfl)) (fun _ _ _ _ _ => (de_and (de_call (ok_is_count M) (by decide) hr hg rfl rfl bd_is_count hl_is_count (da_cons (de_var 2) da_nil)) (de_one (de_cmp op_le oLe (de_var 2) (de_gint rfl M.i_MOST_ROW) rfl)))))) da_nil))))))
theorem bd_row_is_right : Bnd d_row_is_right ["stocks", "value"] 2 [] [0, 1] := fun kV doc pm an cdv ct us ws h1 h2 => match us, ws, h1, h2 with | [_, _], [], _, _ => rfl
theorem hl_row_is_right : ∀ l : List D, l.length = 2 + 0 → (pick [0, 1] l).length = (["stocks", "value"] : List Str).length := fun l h => match l, h with | [_, _], _ => rfl
theorem nd_place_is_right : (["farm", "value"] : List Str).Nodup := by decide +kernel
theorem ok_place_is_right {P : Program} {w : World} {K : PySem.W.Frag} {mg : Str → Option Value} {base : Heap} (M : Mg K mg) : Cll P w K mg base 4 d_place_is_right ["farm", "value"] F_place_is_right := Cll.of (k := 3) (N := ["farm", "value"]) (b := B_place_is_right) M.D_place_is_right M.m_place_is_right ⟨rfl, rfl, rfl, nd_place_is_right, rfl, by decide +kernel, by decide +kernel⟩ (fun cdv A outer s H E hg hr => (ds_cons (ds_if (L2.PW.pt (dw_or (dt_not (dt_val (de_callB call_isi clo_isi rfl M.b_isinstance (da_cons (de_var 1) (da_cons (de_ty "tuple" rfl M.b_tuple) da_nil))))) (dw_or (dt_cmp (op_neA hr.units) o_neA (de_callB (Dl.CallR.or call_len_seq call_len_str) clo_len rfl M.b_len (da_cons (de_var 1) da_nil)) de_int rfl) (pw_or1 (dt_not (dt_val (de_call (ok_is_position M) (by decide) hr hg rfl rfl bd_is_position hl_is_position (da_cons (de_ixA hr.u65 (de_var 1) de_int) (da_cons (de_ixA hr.u65 (de_var 0) de_int) da_nil))))))))) (ds_one (ds_ret de_bl)) ds_nil) (ds_one (ds_ret (de_call (ok_row_is_right M) (by decide) hr hg rfl rfl bd_row_is_right hl_row_is_right (da_cons (de_ixA hr.u65 (de_var 0) de_int) (da_cons (de_ixA hr.u65 (de_var 1) de_int) da_nil)))))))
theorem bd_place_is_right : Bnd d_place_is_right ["farm", "value"] 2 [] [0, 1] := fun kV doc pm an cdv ct us ws h1 h2 => match us, ws, h1, h2 with | [_, _], [], _, _ => rfl
theorem hl_place_is_right : ∀ l : List D, l.length = 2 + 0 → (pick [0, 1] l).length = (["farm", "value"] : List Str).length := fun l h => match l, h with | [_, _], _ => rfl
theorem nd_check_place : (["farm", "place"] : List Str).Nodup := by decide +kernel
theorem ok_check_place {P : Program} {w : World} {K : PySem.W.Frag} {mg : Str → Option Value} {base : Heap} (M : Mg K mg) : Cll P w K mg base 5 d_check_place ["farm", "place"] F_check_place := Cll.of (k := 4) (N := ["farm", "place"]) (b := B_check_place) M.D_check_place M.m_check_place ⟨rfl, rfl, rfl, nd_check_place, rfl, by decide +kernel, by decide +kernel⟩ (fun cdv A outer s H E hg hr => (ds_one (ds_if (dt_not (dt_val (de_call (ok_place_is_right M) (by decide) hr hg rfl rfl bd_place_is_right hl_place_is_right (da_cons (de_var 0) (da_cons (de_var 1) da_nil))))) (ds_one ds_never) ds_nil)))
theorem bd_check_place : Bnd d_check_place ["farm", "place"] 2 [] [0, 1] := fun kV doc pm an cdv ct us ws h1 h2 => match us, ws, h1, h2 with | [_, _], [], _, _ => rfl
theorem hl_check_place : ∀ l : List D, l.length = 2 + 0 → (pick [0, 1] l).length = (["farm", "place"] : List Str).length := fun l h => match l, h with | [_, _], _ => rfl
theorem nd_check_both : (["farm", "place"] : List Str).Nodup := by decide +kernel
theorem ok_check_both {P : Program} {w : World} {K : PySem.W.Frag} {mg : Str → Option Value} {base : Heap} (M : Mg K mg) : Cll P w K mg base 7 d_check_both ["farm", "place"] F_check_both := Cll.of (k := 6) (N := ["farm", "place"]) (b := B_check_both) M.D_check_both M.m_check_both ⟨rfl, rfl, rfl, nd_check_both, rfl, by decide +kernel, by decide +kernel⟩ (fun cdv A outer s H E hg hr => (ds_cons (ds_expr (de_call (ok_check_farm M) (by decide) hr hg rfl rfl bd_check_farm hl_check_farm (da_cons (de_var 0) da_nil))) (ds_one (ds_expr (de_call (ok_check_place M) (by decide) hr hg rfl rfl bd_check_place hl_check_place (da_cons (de_var 0) (da_cons (de_var 1) da_nil)))))))
theorem bd_check_both : Bnd d_check_both ["farm", "place"] 2 [] [0, 1] := fun kV doc pm an cdv ct us ws h1 h2 => match us, ws, h1, h2 with | [_, _], [], _, _ => rfl
theorem hl_check_both : ∀ l : List D, l.length = 2 + 0 → (pick [0, 1] l).length = (["farm", "place"] : List Str).length := fun l h => match l, h with | [_, _], _ => rfl
theorem nd_is_least : (["row", "other", "one", "its"] : List Str).Nodup := by decide +kernel
theorem ok_is_least {P : Program} {w : World} {K : PySem.W.Frag} {mg : Str → Option Value} {base : Heap} (M : Mg K mg) : Cll P w K mg base 1 d_is_least ["row", "other"] F_is_least := Cll.of (k := 0) (N := ["row", "other", "one", "its"]) (b := B_is_least) M.D_is_least M.m_is_least ⟨rfl, rfl, rfl, nd_is_least, rfl, by decide +kernel, by decide +kernel⟩ (fun cdv A outer s H E hg hr => (ds_one (ds_ret (de_callB (cr_all rfl) clo_all rfl M.b_all (da_cons (de_val (dl_lc (own := [("one", 2), ("its", 3)]) rfl nd_is_least (di_zip rfl M.b_zip (da_cons (de_var 0) (da_cons (de_var 1) da_nil))) rfl (fun _ _ _ _ _ => (pg_tup rfl (pgs_cons (pg_name nd_is_least rfl (by first | exact .inl rfl | exact .inr rfl)) (pgs_cons (pg_name nd_is_least rfl (by first | exact .inl rfl | exact .inr rfl)) pgs_nil)))) (fun _ _ _ _ _ => (pts_yes rfl)) (fun _ _ _ _ _ => (de_cmp op_ge oGe (de_var 2) (de_var 3) rfl)))) da_nil)))))
theorem bd_is_least : Bnd d_is_least ["row", "other"] 2 [] [0, 1] := fun kV doc pm an cdv ct us ws h1 h2 => match us, ws, h1, h2 with | [_, _], [], _, _ => rfl
theorem hl_is_least : ∀ l : List D, l.length = 2 + 0 → (pick [0, 1] l).length = (["row", "other"] : List Str).length := fun l h => match l, h with | [_, _], _ => rfl
theorem nd_is_let : (["farm", "place", "step"] : List Str).Nodup := by decide +kernel
theorem ok_is_let {P : Program} {w : World} {K : PySem.W.Frag} {mg : Str → Option Value} {base : Heap} (M : Mg K mg) : Cll P w K mg base 2 d_is_let ["farm", "place", "step"] F_is_let := Cll.of (k := 1) (N := ["farm", "place", "step"]) (b := B_is_let) M.D_is_let M.m_is_let ⟨rfl, rfl, rfl, nd_is_let, rfl, by decide +kernel, by decide +kernel⟩ (fun cdv A outer s H E hg hr => (ds_one (ds_ret (de_and (de_cmp (op_eqA hr.units) o_eqA (de_ixA hr.u65 (de_ixA hr.u65 (de_ixA hr.u65 (de_var 0) de_int) (de_var 2)) de_int) (de_ixA hr.u65 (de_var 1) de_int) rfl) (de_one (de_call (ok_is_least M) (by decide) hr hg rfl rfl bd_is_least hl_is_least (da_cons (de_ixA hr.u65 (de_var 1) de_int) (da_cons (de_ixA hr.u65 (de_ixA hr.u65 (de_ixA hr.u65 (de_var 0) de_int) (de_var 2)) de_int) da_nil))))))))
theorem bd_is_let : Bnd d_is_let ["farm", "place", "step"] 3 [] [0, 1, 2] := fun kV doc pm an cdv ct us ws h1 h2 => match us, ws, h1, h2 with | [_, _, _], [], _, _ => rfl
theorem hl_is_let : ∀ l : List D, l.length = 3 + 0 → (pick [0, 1, 2] l).length = (["farm", "place", "step"] : List Str).length := fun l h => match l, h with | [_, _, _], _ => rfl
theorem nd_let_at : (["farm", "place", "step"] : List Str).Nodup := by decide +kernel
theorem ok_let_at {P : Program} {w : World} {K : PySem.W.Frag} {mg : Str → Option Value} {base : Heap} (M : Mg K mg) : Cll P w K mg base 3 d_let_at ["farm", "place"] F_let_at := Cll.of (k := 2) (N := ["farm", "place", "step"]) (b := B_let_at) M.D_let_at M.m_let_at ⟨rfl, rfl, rfl, nd_let_at, rfl, by decide +kernel, by decide +kernel⟩ (fun cdv A outer s H E hg hr => (ds_one (ds_ret (de_val (dl_lc (own := [("step", 2)]) rfl nd_let_at (di_rng1 rfl M.b_range (da_cons (de_callB (Dl.CallR.or call_len_seq call_len_str) clo_len rfl M.b_len (da_cons (de_ixA hr.u65 (de_var 0) de_int) da_nil)) da_nil)) rfl (fun _ _ _ _ _ => (pg_name nd_let_at rfl (by first | exact .inl rfl | exact .inr rfl))) (fun _ _ _ _ _ => (pts_one (dt_val (de_call (ok_is_let M) (by decide) hr hg rfl rfl bd_is_let hl_is_let (da_cons (de_var 0) (da_cons (de_var 1) (da_cons (de_var 2) da_nil))))))) (fun _ _ _ _ _ => (de_var 2)))))))
theorem bd_let_at : Bnd d_let_at ["farm", "place"] 2 [] [0, 1] := fun kV doc pm an cdv ct us ws h1 h2 => match us, ws, h1, h2 with | [_, _], [], _, _ => rfl
theorem hl_let_at : ∀ l : List D, l.length = 2 + 0 → (pick [0, 1] l).length = (["farm", "place"] : List Str).length := fun l h => match l, h with | [_, _], _ => rfl
theorem nd_added : (["row", "effects", "one", "more"] : List Str).Nodup := by decide +kernel
theorem ok_added {P : Program} {w : World} {K : PySem.W.Frag} {mg : Str → Option Value} {base : Heap} (M : Mg K mg) : Cll P w K mg base 1 d_added ["row", "effects"] F_added := Cll.of (k := 0) (N := ["row", "effects", "one", "more"]) (b := B_added) M.D_added M.m_added ⟨rfl, rfl, rfl, nd_added, rfl, by decide +kernel, by decide +kernel⟩ (fun cdv A outer s H E hg hr => (ds_one (ds_ret (de_callTy call_tuple_of clo_tupOf rfl M.b_tuple (da_cons (de_val (dl_lc (own := [("one", 2), ("more", 3)]) rfl nd_added (di_zip rfl M.b_zip (da_cons (de_var 0) (da_cons (de_var 1) da_nil))) rfl (fun _ _ _ _ _ => (pg_tup rfl (pgs_cons (pg_name nd_added rfl (by first | exact .inl rfl | exact .inr rfl)) (pgs_cons (pg_name nd_added rfl (by first | exact .inl rfl | exact .inr rfl)) pgs_nil)))) (fun _ _ _ _ _ => (pts_yes rfl)) (fun _ _ _ _ _ => (de_add (de_var 2) (de_var 3))))) da_nil)))))
theorem bd_added : Bnd d_added ["row", "effects"] 2 [] [0, 1] := fun kV doc pm an cdv ct us ws h1 h2 => match us, ws, h1, h2 with | [_, _], [], _, _ => rfl
theorem hl_added : ∀ l : List D, l.length = 2 + 0 → (pick [0, 1] l).length = (["row", "effects"] : List Str).length := fun l h => match l, h with | [_, _], _ => rfl
theorem nd_led_by : (["farm", "place", "step"] : List Str).Nodup := by decide +kernel
theorem ok_led_by {P : Program} {w : World} {K : PySem.W.Frag} {mg : Str → Option Value} {base : Heap} (M : Mg K mg) : Cll P w K mg base 2 d_led_by ["farm", "place", "step"] F_led_by := Cll.of (k := 1) (N := ["farm", "place", "step"]) (b := B_led_by) M.D_led_by M.m_led_by ⟨rfl, rfl, rfl, nd_led_by, rfl, by decide +kernel, by decide +kernel⟩ (fun cdv A outer s H E hg hr => (ds_one (ds_ret (de_tup (da_cons (de_ixA hr.u65 (de_ixA hr.u65 (de_ixA hr.u65 (de_var 0) de_int) (de_var 2)) de_int) (da_cons (de_call (ok_added M) (by decide) hr hg rfl rfl bd_added hl_added (da_cons (de_ixA hr.u65 (de_var 1) de_int) (da_cons (de_ixA hr.u65 (de_ixA hr.u65 (de_ixA hr.u65 (de_var 0) de_int) (de_var 2)) de_int) da_nil))) da_nil)) (lenS (lenS len0))))))
theorem bd_led_by : Bnd d_led_by ["farm", "place", "step"] 3 [] [0, 1, 2] := fun kV doc pm an cdv ct us ws h1 h2 => match us, ws, h1, h2 with | [_, _, _], [], _, _ => rfl
theorem hl_led_by : ∀ l : List D, l.length = 3 + 0 → (pick [0, 1, 2] l).length = (["farm", "place", "step"] : List Str).length := fun l h => match l, h with | [_, _, _], _ => rfl
theorem nd_next_level : (["farm", "firsts", "level", "found", "place", "step", "there"] : List Str).Nodup := by decide +kernel
theorem ok_next_level {P : Program} {w : World} {K : PySem.W.Frag} {mg : Str → Option Value} {base : Heap} (M : Mg K mg) : Cll P w K mg base 4 d_next_level ["farm", "firsts", "level"] F_next_level := Cll.of (k := 3) (N := ["farm", "firsts", "level", "found", "place", "step", "there"]) (b := B_next_level) M.D_next_level M.m_next_level ⟨rfl, rfl, rfl, nd_next_level, rfl, by decide +kernel, by decide +kernel⟩ (fun cdv A outer s H E hg hr => (ds_cons (ds_set 3 nd_next_level (de_new (dl_lst da_nil len0))) (ds_cons (ds_for PassesOwn.never rfl (di_it (de_var 2)) (pg_name nd_next_level rfl (by first | exact .inl rfl | exact .inr rfl)) (ds_one (ds_for PassesOwn.never rfl (di_it (de_call (ok_let_at M) (by decide) hr hg rfl rfl bd_let_at hl_let_at (da_cons (de_var 0) (da_cons (de_var 4) da_nil)))) (pg_name nd_next_level rfl (by first | exact .inl rfl | exact .inr rfl)) (ds_cons (ds_set 6 nd_next_level (de_call (ok_led_by M) (by decide) hr hg rfl rfl bd_led_by hl_led_by (da_cons (de_var 0) (da_cons (de_var 4) (da_cons (de_var 5) da_nil))))) (ds_one (ds_if (dt_cmp (op_notInA hr.u65) o_notInA (de_var 6) (de_var 1) rfl) (ds_cons (ds_asg (de_add (de_ixA hr.u65 (de_var 1) (de_var 4)) (de_tup (da_cons (de_var 5) da_nil) (lenS len0))) (dg_subA hr.u65 (de_var 1) (de_var 6))) (ds_one (ds_expr (de_append (de_var 3) (da_cons (de_var 6) da_nil))))) ds_nil)))))) (ds_one (ds_ret (de_fz (de_var 3)))))))
theorem bd_next_level : Bnd d_next_level ["farm", "firsts", "level"] 3 [] [0, 1, 2] := fun kV doc pm an cdv ct us ws h1 h2 => match us, ws, h1, h2 with | [_, _, _], [], _, _ => rfl
theorem hl_next_level : ∀ l : List D, l.length = 3 + 0 → (pick [0, 1, 2] l).length = (["farm", "firsts", "level"] : List Str).length := fun l h => match l, h with | [_, _, _], _ => rfl
theorem nd_is_near : (["place", "goal", "left", "one", "its"] : List Str).Nodup := by decide +kernel
theorem ok_is_near {P : Program} {w : World} {K : PySem.W.Frag} {mg : Str → Option Value} {base : Heap} (M : Mg K mg) : Cll P w K mg base 1 d_is_near ["place", "goal", "left"] F_is_near := Cll.of (k := 0) (N := ["place", "goal", "left", "one", "its"]) (b := B_is_near) M.D_is_near M.m_is_near ⟨rfl, rfl, rfl, nd_is_near, rfl, by decide +kernel, by decide +kernel⟩ (fun cdv A outer s H E hg hr => (ds_one (ds_ret (de_callB (cr_all rfl) clo_all rfl M.b_all (da_cons (de_val (dl_lc (own := [("one", 3), ("its", 4)]) rfl nd_is_near (di_zip rfl M.b_zip (da_cons (de_ixA hr.u65 (de_var 0) de_int) (da_cons (de_ixA hr.u65 (de_var 1) de_int) da_nil))) rfl (fun _ _ _ _ _ => (pg_tup rfl (pgs_cons (pg_name nd_is_near rfl (by first | exact .inl rfl | exact .inr rfl)) (pgs_cons (pg_name nd_is_near rfl (by first | exact .inl rfl | exact .inr rfl)) pgs_nil)))) (fun _ _ _ _ _ => (pts_yes rfl)) (fun _ _ _ _ _ => (de_cmp op_le oLe (de_callB call_abs clo_abs rfl M.b_abs (da_cons (de_sub (de_var 3) (de_var 4)) da_nil)) (de_mulA (de_gint rfl M.i_MOST_EFFECT) (de_var 2)) rfl)))) da_nil)))))
theorem bd_is_near : Bnd d_is_near ["place", "goal", "left"] 3 [] [0, 1, 2] := fun kV doc pm an cdv ct us ws h1 h2 => match us, ws, h1, h2 with | [_, _, _], [], _, _ => rfl
theorem hl_is_near : ∀ l : List D, l.length = 3 + 0 → (pick [0, 1, 2] l).length = (["place", "goal", "left"] : List Str).length := fun l h => match l, h with | [_, _, _], _ => rfl
theorem nd_first_to : (["farm", "place", "goal", "many", "firsts", "level", "left", "here"] : List Str).Nodup := by decide +kernel
theorem ok_first_to {P : Program} {w : World} {K : PySem.W.Frag} {mg : Str → Option Value} {base : Heap} (M : Mg K mg) : Cll P w K mg base 5 d_first_to ["farm", "place", "goal", "many"] F_first_to := Cll.of (k := 4) (N := ["farm", "place", "goal", "many", "firsts", "level", "left", "here"]) (b := B_first_to) M.D_first_to M.m_first_to ⟨rfl, rfl, rfl, nd_first_to, rfl, by decide +kernel, by decide +kernel⟩ (fun cdv A outer s H E hg hr => (ds_cons (ds_par 4 5 rfl nd_first_to (da_cons (de_disp1 hr.u65 (de_var 1) (de_tup da_nil len0)) (da_cons (de_val (dl_lst (da_cons (de_var 1) da_nil) (lenS len0))) da_nil))) (ds_cons (ds_for PassesOwn.never rfl (di_revR rfl M.b_reversed rfl M.b_range (de_var 3)) (pg_name nd_first_to rfl (by first | exact .inl rfl | exact .inr rfl)) (ds_cons (ds_if (dt_cmp (op_inA hr.u65) o_inA (de_var 2) (de_var 4) rfl) (ds_one (ds_ret (de_ixA hr.u65 (de_var 4) (de_var 2)))) ds_nil) (ds_one (ds_setLc (own := [("here", 7)]) 5 rfl nd_first_to (sw_true rfl rfl rfl rfl) (di_it (de_call (ok_next_level M) (by decide) hr hg rfl rfl bd_next_level hl_next_level (da_cons (de_var 0) (da_cons (de_var 4) (da_cons (de_var 5) da_nil))))) rfl (fun _ _ _ _ _ => (pg_name nd_first_to rfl (by first | exact .inl rfl | exact .inr rfl))) (fun _ _ _ _ _ => (pts_one (dt_val (de_call (ok_is_near M) (by decide) hr hg rfl rfl bd_is_near hl_is_near (da_cons (de_var 7) (da_cons (de_var 2) (da_cons (de_var 6) da_nil))))))) (fun _ _ _ _ _ => (de_var 7)) fv_weak)))) (ds_one (ds_ret (de_getN hr.u65 (de_var 4) (de_var 2)))))))
theorem bd_first_to : Bnd d_first_to ["farm", "place", "goal", "many"] 4 [] [0, 1, 2, 3] := fun kV doc pm an cdv ct us ws h1 h2 => match us, ws, h1, h2 with | [_, _, _, _], [], _, _ => rfl
theorem hl_first_to : ∀ l : List D, l.length = 4 + 0 → (pick [0, 1, 2, 3] l).length = (["farm", "place", "goal", "many"] : List Str).length := fun l h => match l, h with | [_, _, _, _], _ => rfl
theorem nd_great_place_is_right : (["farm", "value", "one"] : List Str).Nodup := by decide +kernel
theorem ok_great_place_is_right {P : Program} {w : World} {K : PySem.W.Frag} {mg : Str → Option Value} {base : Heap} (M : Mg K mg) : Cll P w K mg base 3 d_great_place_is_right ["farm", "value"] F_great_place_is_right := Cll.of (k := 2) (N := ["farm", "value", "one"]) (b := B_great_place_is_right) M.D_great_place_is_right M.m_great_place_is_right ⟨rfl, rfl, rfl, nd_great_place_is_right, rfl, by decide +kernel, by decide +kernel⟩ (fun cdv A outer s H E hg hr => (ds_cons (ds_if (L2.PW.pt (dw_or (dt_not (dt_val (de_callB call_isi clo_isi rfl M.b_isinstance (da_cons (de_var 1) (da_cons (de_ty "tuple" rfl M.b_tuple) da_nil))))) (dw_or (dt_cmp (op_neA hr.units) o_neA (de_callB (Dl.CallR.or call_len_seq call_len_str) clo_len rfl M.b_len (da_cons (de_var 1) da_nil)) de_int rfl) (pw_or1 (dt_not (dt_val (de_call (ok_is_position M) (by decide) hr hg rfl rfl bd_is_position hl_is_position (da_cons (de_ixA hr.u65 (de_var 1) de_int) (da_cons (de_ixA hr.u65 (de_var 0) de_int) da_nil))))))))) (ds_one (ds_ret de_bl)) ds_nil) (ds_one (ds_ret (de_and (de_callB call_isi clo_isi rfl M.b_isinstance (da_cons (de_ixA hr.u65 (de_var 1) de_int) (da_cons (de_ty "tuple" rfl M.b_tuple) da_nil))) (de_and (de_cmp (op_eqA hr.units) o_eqA (de_callB (Dl.CallR.or call_len_seq call_len_str) clo_len rfl M.b_len (da_cons (de_ixA hr.u65 (de_var 1) de_int) da_nil)) (de_ixA hr.u65 (de_var 0) de_int) rfl) (de_one (de_callB (cr_all rfl) clo_all rfl M.b_all (da_cons (de_val (dl_lc (own := [("one", 2)]) rfl nd_great_place_is_right (di_it (de_ixA hr.u65 (de_var 1) de_int)) rfl (fun _ _ _ _ _ => (pg_name nd_great_place_is_right rfl (by first | exact .inl rfl | exact .inr rfl))) (fun _ _ _ _ _ => (pts_yes rfl)) (fun _ _ _ _ _ => (de_call (ok_is_count M) (by decide) hr hg rfl rfl bd_is_count hl_is_count (da_cons (de_var 2) da_nil))))) da_nil)))))))))
theorem bd_great_place_is_right : Bnd d_great_place_is_right ["farm", "value"] 2 [] [0, 1] := fun kV doc pm an cdv ct us ws h1 h2 => match us, ws, h1, h2 with | [_, _], [], _, _ => rfl
theorem hl_great_place_is_right : ∀ l : List D, l.length = 2 + 0 → (pick [0, 1] l).length = (["farm", "value"] : List Str).length := fun l h => match l, h with | [_, _], _ => rfl
theorem nd_first_run : (["farm", "place", "goal"] : List Str).Nodup := by decide +kernel
theorem ok_first_run {P : Program} {w : World} {K : PySem.W.Frag} {mg : Str → Option Value} {base : Heap} (M : Mg K mg) : Cll P w K mg base 8 d_first_run ["farm", "place", "goal"] F_first_run := Cll.of (k := 7) (N := ["farm", "place", "goal"]) (b := B_first_run) M.D_first_run M.m_first_run ⟨rfl, rfl, rfl, nd_first_run, rfl, by decide +kernel, by decide +kernel⟩ (fun cdv A outer s H E hg hr => (ds_cons (ds_expr (de_call (ok_check_both M) (by decide) hr hg rfl rfl bd_check_both hl_check_both (da_cons (de_var 0) (da_cons (de_var 1) da_nil)))) (ds_cons (ds_if (dt_not (dt_val (de_call (ok_great_place_is_right M) (by decide) hr hg rfl rfl bd_great_place_is_right hl_great_place_is_right (da_cons (de_var 0) (da_cons (de_var 2) da_nil))))) (ds_one ds_never) ds_nil) (ds_one (ds_ret (de_call (ok_first_to M) (by decide) hr hg rfl rfl bd_first_to hl_first_to (da_cons (de_var 0) (da_cons (de_var 1) (da_cons (de_var 2) (da_cons (de_gint rfl M.i_MOST_WITHIN) da_nil))))))))))
theorem bd_first_run : Bnd d_first_run ["farm", "place", "goal"] 3 [] [0, 1, 2] := fun kV doc pm an cdv ct us ws h1 h2 => match us, ws, h1, h2 with | [_, _, _], [], _, _ => rfl
theorem hl_first_run : ∀ l : List D, l.length = 3 + 0 → (pick [0, 1, 2] l).length = (["farm", "place", "goal"] : List Str).length := fun l h => match l, h with | [_, _, _], _ => rfl
theorem bk_1 : Bnd d_first_run ["farm", "place", "goal"] 0 ["goal", "place", "farm"] [2, 1, 0] := fun kV doc pm an cdv ct us ws h1 h2 => match us, ws, h1, h2 with | [], [_, _, _], _, _ => rfl
theorem hk_1 : ∀ l : List D, l.length = 0 + (["goal", "place", "farm"] : List Str).length → (pick [2, 1, 0] l).length = (["farm", "place", "goal"] : List Str).length := fun l h => match l, h with | [_, _, _], _ => rfl
theorem nd_check_within : (["farm", "place", "many"] : List Str).Nodup := by decide +kernel
theorem ok_check_within {P : Program} {w : World} {K : PySem.W.Frag} {mg : Str → Option Value} {base : Heap} (M : Mg K mg) : Cll P w K mg base 8 d_check_within ["farm", "place", "many"] F_check_within := Cll.of (k := 7) (N := ["farm", "place", "many"]) (b := B_check_within) M.D_check_within M.m_check_within ⟨rfl, rfl, rfl, nd_check_within, rfl, by decide +kernel, by decide +kernel⟩ (fun cdv A outer s H E hg hr => (ds_cons (ds_expr (de_call (ok_check_both M) (by decide) hr hg rfl rfl bd_check_both hl_check_both (da_cons (de_var 0) (da_cons (de_var 1) da_nil)))) (ds_one (ds_if (L2.PW.pt (dw_or (dt_not (dt_val (de_call (ok_is_count M) (by decide) hr hg rfl rfl bd_is_count hl_is_count (da_cons (de_var 2) da_nil)))) (pw_or1 (dt_cmp op_gt oGt (de_var 2) (de_gint rfl M.i_MOST_WITHIN) rfl)))) (ds_one ds_never) ds_nil))))
theorem bd_check_within : Bnd d_check_within ["farm", "place", "many"] 3 [] [0, 1, 2] := fun kV doc pm an cdv ct us ws h1 h2 => match us, ws, h1, h2 with | [_, _, _], [], _, _ => rfl
theorem hl_check_within : ∀ l : List D, l.length = 3 + 0 → (pick [0, 1, 2] l).length = (["farm", "place", "many"] : List Str).length := fun l h => match l, h with | [_, _, _], _ => rfl
theorem nd_within : (["farm", "place", "many", "firsts", "level", "turn"] : List Str).Nodup := by decide +kernel
theorem ok_within {P : Program} {w : World} {K : PySem.W.Frag} {mg : Str → Option Value} {base : Heap} (M : Mg K mg) : Cll P w K mg base 5 d_within ["farm", "place", "many"] F_within := Cll.of (k := 4) (N := ["farm", "place", "many", "firsts", "level", "turn"]) (b := B_within) M.D_within M.m_within ⟨rfl, rfl, rfl, nd_within, rfl, by decide +kernel, by decide +kernel⟩ (fun cdv A outer s H E hg hr => (ds_cons (ds_par 3 4 rfl nd_within (da_cons (de_disp1 hr.u65 (de_var 1) (de_tup da_nil len0)) (da_cons (de_val (dl_lst (da_cons (de_var 1) da_nil) (lenS len0))) da_nil))) (ds_cons (ds_for PassesOwn.never rfl (di_rng1 rfl M.b_range (da_cons (de_var 2) da_nil)) (pg_name nd_within rfl (by first | exact .inl rfl | exact .inr rfl)) (ds_one (ds_set 4 nd_within (de_call (ok_next_level M) (by decide) hr hg rfl rfl bd_next_level hl_next_level (da_cons (de_var 0) (da_cons (de_var 3) (da_cons (de_var 4) da_nil))))))) (ds_one (ds_ret (de_var 3))))))
theorem bd_within : Bnd d_within ["farm", "place", "many"] 3 [] [0, 1, 2] := fun kV doc pm an cdv ct us ws h1 h2 => match us, ws, h1, h2 with | [_, _, _], [], _, _ => rfl
theorem hl_within : ∀ l : List D, l.length = 3 + 0 → (pick [0, 1, 2] l).length = (["farm", "place", "many"] : List Str).length := fun l h => match l, h with | [_, _, _], _ => rfl
theorem nd_come_within : (["farm", "place", "many"] : List Str).Nodup := by decide +kernel
theorem ok_come_within {P : Program} {w : World} {K : PySem.W.Frag} {mg : Str → Option Value} {base : Heap} (M : Mg K mg) : Cll P w K mg base 9 d_come_within ["farm", "place", "many"] F_come_within := Cll.of (k := 8) (N := ["farm", "place", "many"]) (b := B_come_within) M.D_come_within M.m_come_within ⟨rfl, rfl, rfl, nd_come_within, rfl, by decide +kernel, by decide +kernel⟩ (fun cdv A outer s H E hg hr => (ds_cons (ds_expr (de_call (ok_check_within M) (by decide) hr hg rfl rfl bd_check_within hl_check_within (da_cons (de_var 0) (da_cons (de_var 1) (da_cons (de_var 2) da_nil))))) (ds_one (ds_ret (de_new (dl_sortA rfl hr.u65 rfl M.b_sorted (da_cons (de_call (ok_within M) (by decide) hr hg rfl rfl bd_within hl_within (da_cons (de_var 0) (da_cons (de_var 1) (da_cons (de_var 2) da_nil)))) da_nil)))))))
theorem bd_come_within : Bnd d_come_within ["farm", "place", "many"] 3 [] [0, 1, 2] := fun kV doc pm an cdv ct us ws h1 h2 => match us, ws, h1, h2 with | [_, _, _], [], _, _ => rfl
theorem hl_come_within : ∀ l : List D, l.length = 3 + 0 → (pick [0, 1, 2] l).length = (["farm", "place", "many"] : List Str).length := fun l h => match l, h with | [_, _, _], _ => rfl
theorem bk_0 : Bnd d_come_within ["farm", "place", "many"] 0 ["many", "place", "farm"] [2, 1, 0] := fun kV doc pm an cdv ct us ws h1 h2 => match us, ws, h1, h2 with | [], [_, _, _], _, _ => rfl
theorem hk_0 : ∀ l : List D, l.length = 0 + (["many", "place", "farm"] : List Str).length → (pick [2, 1, 0] l).length = (["farm", "place", "many"] : List Str).length := fun l h => match l, h with | [_, _, _], _ => rfl
theorem nd_way_is_right : (["farm", "value", "one", "other", "step"] : List Str).Nodup := by decide +kernel
theorem ok_way_is_right {P : Program} {w : World} {K : PySem.W.Frag} {mg : Str → Option Value} {base : Heap} (M : Mg K mg) : Cll P w K mg base 3 d_way_is_right ["farm", "value"] F_way_is_right := Cll.of (k := 2) (N := ["farm", "value", "one", "other", "step"]) (b := B_way_is_right) M.D_way_is_right M.m_way_is_right ⟨rfl, rfl, rfl, nd_way_is_right, rfl, by decide +kernel, by decide +kernel⟩ (fun cdv A outer s H E hg hr => (ds_cons (ds_if (L2.PW.pt (dw_or (dt_not (dt_val (de_callB call_isi clo_isi rfl M.b_isinstance (da_cons (de_var 1) (da_cons (de_ty "tuple" rfl M.b_tuple) da_nil))))) (pw_or1 (dt_not (dt_val (de_callB (cr_all rfl) clo_all rfl M.b_all (da_cons (de_val (dl_lc (own := [("step", 4)]) rfl nd_way_is_right (di_it (de_var 1)) rfl (fun _ _ _ _ _ => (pg_name nd_way_is_right rfl (by first | exact .inl rfl | exact .inr rfl))) (fun _ _ _ _ _ => (pts_yes rfl)) (fun _ _ _ _ _ => (de_call (ok_is_position M) (by decide) hr hg rfl rfl bd_is_position hl_is_position (da_cons (de_var 4) (da_cons (de_callB (Dl.CallR.or call_len_seq call_len_str) clo_len rfl M.b_len (da_cons (de_ixA hr.u65 (de_var 0) de_int) da_nil)) da_nil)))))) da_nil))))))) (ds_one (ds_ret de_bl)) ds_nil) (ds_one (ds_ret (de_callB (cr_all rfl) clo_all rfl M.b_all (da_cons (de_val (dl_lc (own := [("one", 2), ("other", 3)]) rfl nd_way_is_right (di_zip rfl M.b_zip (da_cons (de_var 1) (da_cons (de_sl (de_var 1) (do_some de_int) do_none) da_nil))) rfl (fun _ _ _ _ _ => (pg_tup rfl (pgs_cons (pg_name nd_way_is_right rfl (by first | exact .inl rfl | exact .inr rfl)) (pgs_cons (pg_name nd_way_is_right rfl (by first | exact .inl rfl | exact .inr rfl)) pgs_nil)))) (fun _ _ _ _ _ => (pts_yes rfl)) (fun _ _ _ _ _ => (de_cmp (op_eqA hr.units) o_eqA (de_ixA hr.u65 (de_ixA hr.u65 (de_ixA hr.u65 (de_var 0) de_int) (de_var 2)) de_int) (de_ixA hr.u65 (de_ixA hr.u65 (de_ixA hr.u65 (de_var 0) de_int) (de_var 3)) de_int) rfl)))) da_nil))))))
theorem bd_way_is_right : Bnd d_way_is_right ["farm", "value"] 2 [] [0, 1] := fun kV doc pm an cdv ct us ws h1 h2 => match us, ws, h1, h2 with | [_, _], [], _, _ => rfl
theorem hl_way_is_right : ∀ l : List D, l.length = 2 + 0 → (pick [0, 1] l).length = (["farm", "value"] : List Str).length := fun l h => match l, h with | [_, _], _ => rfl
theorem nd_check_way : (["farm", "way"] : List Str).Nodup := by decide +kernel
theorem ok_check_way {P : Program} {w : World} {K : PySem.W.Frag} {mg : Str → Option Value} {base : Heap} (M : Mg K mg) : Cll P w K mg base 4 d_check_way ["farm", "way"] F_check_way := Cll.of (k := 3) (N := ["farm", "way"]) (b := B_check_way) M.D_check_way M.m_check_way ⟨rfl, rfl, rfl, nd_check_way, rfl, by decide +kernel, by decide +kernel⟩ (fun cdv A outer s H E hg hr => (ds_one (ds_if (L2.PW.pt (dw_or (dt_not (dt_val (de_call (ok_way_is_right M) (by decide) hr hg rfl rfl bd_way_is_right hl_way_is_right (da_cons (de_var 0) (da_cons (de_var 1) da_nil))))) (pw_or1 (dt_cmp op_gt oGt (de_callB (Dl.CallR.or call_len_seq call_len_str) clo_len rfl M.b_len (da_cons (de_var 1) da_nil)) (de_gint rfl M.i_MOST_STEPS_ways) rfl)))) (ds_one ds_never) ds_nil)))
theorem bd_check_way : Bnd d_check_way ["farm", "way"] 2 [] [0, 1] := fun kV doc pm an cdv ct us ws h1 h2 => match us, ws, h1, h2 with | [_, _], [], _, _ => rfl
theorem hl_check_way : ∀ l : List D, l.length = 2 + 0 → (pick [0, 1] l).length = (["farm", "way"] : List Str).length := fun l h => match l, h with | [_, _], _ => rfl
theorem nd_places_along : (["farm", "place", "way", "found", "step"] : List Str).Nodup := by decide +kernel
theorem ok_places_along {P : Program} {w : World} {K : PySem.W.Frag} {mg : Str → Option Value} {base : Heap} (M : Mg K mg) : Cll P w K mg base 3 d_places_along ["farm", "place", "way"] F_places_along := Cll.of (k := 2) (N := ["farm", "place", "way", "found", "step"]) (b := B_places_along) M.D_places_along M.m_places_along ⟨rfl, rfl, rfl, nd_places_along, rfl, by decide +kernel, by decide +kernel⟩ (fun cdv A outer s H E hg hr => (ds_cons (ds_set 3 nd_places_along (de_new (dl_lst (da_cons (de_var 1) da_nil) (lenS len0)))) (ds_cons (ds_for PassesOwn.never rfl (di_it (de_var 2)) (pg_name nd_places_along rfl (by first | exact .inl rfl | exact .inr rfl)) (ds_cons (ds_if (dt_not (dt_val (de_call (ok_is_let M) (by decide) hr hg rfl rfl bd_is_let hl_is_let (da_cons (de_var 0) (da_cons (de_ixA hr.u65 (de_var 3) (de_neg de_int)) (da_cons (de_var 4) da_nil)))))) (ds_one (ds_ret de_non)) ds_nil) (ds_one (ds_expr (de_append (de_var 3) (da_cons (de_call (ok_led_by M) (by decide) hr hg rfl rfl bd_led_by hl_led_by (da_cons (de_var 0) (da_cons (de_ixA hr.u65 (de_var 3) (de_neg de_int)) (da_cons (de_var 4) da_nil)))) da_nil)))))) (ds_one (ds_ret (de_fz (de_var 3)))))))
theorem bd_places_along : Bnd d_places_along ["farm", "place", "way"] 3 [] [0, 1, 2] := fun kV doc pm an cdv ct us ws h1 h2 => match us, ws, h1, h2 with | [_, _, _], [], _, _ => rfl
theorem hl_places_along : ∀ l : List D, l.length = 3 + 0 → (pick [0, 1, 2] l).length = (["farm", "place", "way"] : List Str).length := fun l h => match l, h with | [_, _, _], _ => rfl
theorem nd_run_places : (["farm", "place", "way"] : List Str).Nodup := by decide +kernel
theorem ok_run_places {P : Program} {w : World} {K : PySem.W.Frag} {mg : Str → Option Value} {base : Heap} (M : Mg K mg) : Cll P w K mg base 7 d_run_places ["farm", "place", "way"] F_run_places := Cll.of (k := 6) (N := ["farm", "place", "way"]) (b := B_run_places) M.D_run_places M.m_run_places ⟨rfl, rfl, rfl, nd_run_places, rfl, by decide +kernel, by decide +kernel⟩ (fun cdv A outer s H E hg hr => (ds_cons (ds_expr (de_call (ok_check_farm M) (by decide) hr hg rfl rfl bd_check_farm hl_check_farm (da_cons (de_var 0) da_nil))) (ds_cons (ds_expr (de_call (ok_check_place M) (by decide) hr hg rfl rfl bd_check_place hl_check_place (da_cons (de_var 0) (da_cons (de_var 1) da_nil)))) (ds_cons (ds_expr (de_call (ok_check_way M) (by decide) hr hg rfl rfl bd_check_way hl_check_way (da_cons (de_var 0) (da_cons (de_var 2) da_nil)))) (ds_one (ds_ret (de_call (ok_places_along M) (by decide) hr hg rfl rfl bd_places_along hl_places_along (da_cons (de_var 0) (da_cons (de_var 1) (da_cons (de_var 2) da_nil))))))))))
theorem bd_run_places : Bnd d_run_places ["farm", "place", "way"] 3 [] [0, 1, 2] := fun kV doc pm an cdv ct us ws h1 h2 => match us, ws, h1, h2 with | [_, _, _], [], _, _ => rfl
theorem hl_run_places : ∀ l : List D, l.length = 3 + 0 → (pick [0, 1, 2] l).length = (["farm", "place", "way"] : List Str).length := fun l h => match l, h with | [_, _, _], _ => rfl
theorem nd__law_right : (["pot", "farm", "place", "shown", "firsts", "many", "level", "here", "turn", "above", "way", "due", "goal", "told", "less", "one"] : List Str).Nodup := by decide +kernel
theorem ok__law_right {P : Program} {w : World} {K : PySem.W.Frag} {mg : Str → Option Value} {base : Heap} (M : Mg K mg) : Cll P w K mg base 10 d__law_right ["pot"] F__law_right := Cll.of (k := 9) (N := ["pot", "farm", "place", "shown", "firsts", "many", "level", "here", "turn", "above", "way", "due", "goal", "told", "less", "one"]) (b := B__law_right) M.D__law_right M.m__law_right ⟨rfl, rfl, rfl, nd__law_right, rfl, by decide +kernel, by decide +kernel⟩ (fun cdv A outer s H E hg hr => (ds_cons (ds_un (de_call (ok__law_tame M) (by decide) hr hg rfl rfl bd__law_tame hl__law_tame (da_cons (de_var 0) da_nil)) (pg_tup rfl (pgs_cons (pg_name nd__law_right rfl (by first | exact .inl rfl | exact .inr rfl)) (pgs_cons (pg_name nd__law_right rfl (by first | exact .inl rfl | exact .inr rfl)) pgs_nil)))) (ds_cons (ds_par 3 4 rfl nd__law_right (da_cons (de_callB (cr_repr hg hr.u65) clo_repr rfl M.b_repr (da_cons (de_var 1) da_nil)) (da_cons de_newN da_nil))) (ds_cons (ds_for PassesOwn.never rfl (di_enumA rfl M.b_enumerate (da_cons (de_call (ok__law_all_runs M) (by decide) hr hg rfl rfl bd__law_all_runs hl__law_all_runs (da_cons (de_var 1) (da_cons (de_var 2) (da_cons de_int da_nil)))) da_nil)) (pg_tup rfl (pgs_cons (pg_name nd__law_right rfl (by first | exact .inl rfl | exact .inr rfl)) (pgs_cons (pg_name nd__law_right rfl (by first | exact .inl rfl | exact .inr rfl)) pgs_nil))) (ds_cons (ds_for PassesOwn.never rfl (di_it (de_var 6)) (pg_tup rfl (pgs_cons (pg_name nd__law_right rfl (by first | exact .inl rfl | exact .inr rfl)) (pgs_cons (pg_name nd__law_right rfl (by first | exact .inl rfl | exact .inr rfl)) pgs_nil))) (ds_one (ds_if (dt_cmp (op_notInA hr.u65) o_notInA (de_var 7) (de_var 4) rfl) (ds_one (ds_asg (de_var 10) (dg_subA hr.u65 (de_var 4) (de_var 7)))) ds_nil))) (ds_cons (ds_set 11 nd__law_right (de_val (dl_sortA rfl hr.u65 rfl M.b_sorted (da_cons (de_var 4) da_nil)))) (ds_cons (ds_if (dt_cmp (op_neA hr.units) o_neA (de_callB (cr_repr hg hr.u65) clo_repr rfl M.b_repr (da_cons (de_val (dl_lst (da_cons (de_call (ok_come_within M) (by decide) hr hg rfl rfl bd_come_within hl_come_within (da_cons (de_var 1) (da_cons (de_var 2) (da_cons (de_var 5) da_nil)))) (da_cons (de_callK0 (ks := ["many", "place", "farm"]) (ok_come_within M) (by decide) hr hg rfl rfl bk_0 hk_0 (dk_cons (de_var 5) (dk_cons (de_var 2) (dk_cons (de_var 1) dk_nil)))) da_nil)) (lenS (lenS len0)))) da_nil)) (de_callB (cr_repr hg hr.u65) clo_repr rfl M.b_repr (da_cons (de_val (dl_lst (da_cons (de_var 11) (da_cons (de_var 11) da_nil)) (lenS (lenS len0)))) da_nil)) rfl) (ds_one (ds_ret de_bl)) ds_nil) (ds_one (ds_expr (de_append (de_call (ok_come_within M) (by decide) hr hg rfl rfl bd_come_within hl_come_within (da_cons (de_var 1) (da_cons (de_var 2) (da_cons (de_var 5) da_nil)))) (da_cons de_non da_nil)))))))) (ds_cons (ds_lck 4 (ds_for PassesOwn.never rfl (di_it (de_var 4)) (pg_name nd__law_right rfl (by first | exact .inl rfl | exact .inr rfl)) (ds_one (ds_if (dt_cmp (op_neA hr.units) o_neA (de_callB (cr_repr hg hr.u65) clo_repr rfl M.b_repr (da_cons (de_val (dl_lst (da_cons (de_call (ok_first_run M) (by decide) hr hg rfl rfl bd_first_run hl_first_run (da_cons (de_var 1) (da_cons (de_var 2) (da_cons (de_var 7) da_nil)))) (da_cons (de_callK0 (ks := ["goal", "place", "farm"]) (ok_first_run M) (by decide) hr hg rfl rfl bk_1 hk_1 (dk_cons (de_var 7) (dk_cons (de_var 2) (dk_cons (de_var 1) dk_nil)))) da_nil)) (lenS (lenS len0)))) da_nil)) (de_callB (cr_repr hg hr.u65) clo_repr rfl M.b_repr (da_cons (de_mulA (de_val (dl_lst (da_cons (de_ixA hr.u65 (de_var 4) (de_var 7)) da_nil) (lenS len0))) de_int) da_nil)) rfl) (ds_one (ds_ret de_bl)) ds_nil)))) (ds_cons (ds_for PassesOwn.never rfl (di_rng1 rfl M.b_range (da_cons de_int da_nil)) (pg_name nd__law_right rfl (by first | exact .inl rfl | exact .inr rfl)) (ds_cons (ds_set 12 nd__law_right (de_tup (da_cons (de_call (ok__law_draw M) (by decide) hr hg rfl rfl bd__law_draw hl__law_draw (da_cons (de_var 0) (da_cons (de_ixA hr.u65 (de_var 1) de_int) da_nil))) (da_cons (de_call (ok__law_row M) (by decide) hr hg rfl rfl bd__law_row hl__law_row (da_cons (de_var 0) (da_cons (de_ixA hr.u65 (de_var 1) de_int) (da_cons de_int da_nil)))) da_nil)) (lenS (lenS len0)))) (ds_cons (ds_set 13 nd__law_right (de_call (ok_first_run M) (by decide) hr hg rfl rfl bd_first_run hl_first_run (da_cons (de_var 1) (da_cons (de_var 2) (da_cons (de_var 12) da_nil))))) (ds_cons (ds_if (L2.PW.pt (dw_or (L2.PW.pt (dw_and (dt_cmp (op_inA hr.u65) o_inA (de_var 12) (de_var 4) rfl) (pw_and1 (dt_cmp (op_neA hr.units) o_neA (de_var 13) (de_ixA hr.u65 (de_var 4) (de_var 12)) rfl)))) (pw_or1 (L2.PW.pt (dw_and (dt_cmp op_notA o_isnot (de_var 13) de_non rfl) (pw_and1 (dt_cmp (op_neA hr.units) o_neA (de_ixA hr.u65 (de_call (ok_run_places M) (by decide) hr hg rfl rfl bd_run_places hl_run_places (da_cons (de_var 1) (da_cons (de_var 2) (da_cons (de_var 13) da_nil)))) (de_neg de_int)) (de_var 12) rfl))))))) (ds_one (ds_ret de_bl)) ds_nil) (ds_one (ds_if (L2.PW.pt (dw_or (L2.PW.pt (dw_and (dt_cmp op_notA o_isnot (de_var 13) de_non rfl) (dw_and (dt_cmp (op_notInA hr.u65) o_notInA (de_var 12) (de_var 4) rfl) (pw_and1 (dt_cmp op_lt oLt (de_callB (Dl.CallR.or call_len_seq call_len_str) clo_len rfl M.b_len (da_cons (de_var 13) da_nil)) de_int rfl))))) (pw_or1 (L2.PW.pt (dw_and (dt_cmp op_isA o_is (de_var 13) de_non rfl) (pw_and1 (dt_cmp (op_inA hr.u65) o_inA (de_var 12) (de_call (ok_come_within M) (by decide) hr hg rfl rfl bd_come_within hl_come_within (da_cons (de_var 1) (da_cons (de_var 2) (da_cons de_int da_nil)))) rfl))))))) (ds_one (ds_ret de_bl)) ds_nil)))))) (ds_cons (ds_set 9 nd__law_right (de_tup (da_cons (de_ixA hr.u65 (de_var 2) de_int) (da_cons (de_callTy call_tuple_of clo_tupOf rfl M.b_tuple (da_cons (de_val (dl_lc (own := [("one", 15)]) rfl nd__law_right (di_it (de_ixA hr.u65 (de_var 2) de_int)) rfl (fun _ _ _ _ _ => (pg_name nd__law_right rfl (by first | exact .inl rfl | exact .inr rfl))) (fun _ _ _ _ _ => (pts_yes rfl)) (fun _ _ _ _ _ => (de_add (de_var 15) (de_call (ok__law_draw M) (by decide) hr hg rfl rfl bd__law_draw hl__law_draw (da_cons (de_var 0) (da_cons de_int da_nil))))))) da_nil)) da_nil)) (lenS (lenS len0)))) (ds_cons (ds_if (dt_cmp op_lt oLt (de_callB (Dl.CallR.or call_len_seq call_len_str) clo_len rfl M.b_len (da_cons (de_call (ok_come_within M) (by decide) hr hg rfl rfl bd_come_within hl_come_within (da_cons (de_var 1) (da_cons (de_var 9) (da_cons de_int da_nil)))) da_nil)) (de_callB (Dl.CallR.or call_len_seq call_len_str) clo_len rfl M.b_len (da_cons (de_call (ok_come_within M) (by decide) hr hg rfl rfl bd_come_within hl_come_within (da_cons (de_var 1) (da_cons (de_var 2) (da_cons de_int da_nil)))) da_nil)) rfl) (ds_one (ds_ret de_bl)) ds_nil) (ds_cons (ds_if (dt_cmp op_gt oGt (de_callB (Dl.CallR.or call_len_seq call_len_str) clo_len rfl M.b_len (da_cons (de_ixA hr.u65 (de_var 1) de_int) da_nil)) de_int rfl) (ds_cons (ds_set 14 nd__law_right (de_add (de_sl (de_var 1) do_none (do_some de_int)) (de_tup (da_cons (de_sl (de_ixA hr.u65 (de_var 1) de_int) do_none (do_some (de_neg de_int))) da_nil) (lenS len0)))) (ds_one (ds_if (dt_val (de_callB (cr_any rfl) clo_any rfl M.b_any (da_cons (de_val (dl_lc (own := [("one", 15)]) rfl nd__law_right (di_it (de_call (ok_come_within M) (by decide) hr hg rfl rfl bd_come_within hl_come_within (da_cons (de_var 14) (da_cons (de_var 2) (da_cons de_int da_nil))))) rfl (fun _ _ _ _ _ => (pg_name nd__law_right rfl (by first | exact .inl rfl | exact .inr rfl))) (fun _ _ _ _ _ => (pts_yes rfl)) (fun _ _ _ _ _ => (de_cmp (op_notInA hr.u65) o_notInA (de_var 15) (de_call (ok_come_within M) (by decide) hr hg rfl rfl bd_come_within hl_come_within (da_cons (de_var 1) (da_cons (de_var 2) (da_cons de_int da_nil)))) rfl)))) da_nil))) (ds_one (ds_ret de_bl)) ds_nil))) ds_nil) (ds_one (ds_ret (de_cmp (op_eqA hr.units) o_eqA (de_callB (cr_repr hg hr.u65) clo_repr rfl M.b_repr (da_cons (de_var 1) da_nil)) (de_var 3) rfl))))))))))))
theorem bd__law_right : Bnd d__law_right ["pot"] 1 [] [0] := fun kV doc pm an cdv ct us ws h1 h2 => match us, ws, h1, h2 with | [_], [], _, _ => rfl
theorem hl__law_right : ∀ l : List D, l.length = 1 + 0 → (pick [0] l).length = (["pot"] : List Str).length := fun l h => match l, h with | [_], _ => rfl
theorem nd__law_pot : (["script", "found", "cell", "first"] : List Str).Nodup := by decide +kernel
theorem ok__law_pot {P : Program} {w : World} {K : PySem.W.Frag} {mg : Str → Option Value} {base : Heap} (M : Mg K mg) : Cll P w K mg base 1 d__law_pot ["script"] F__law_pot := Cll.of (k := 0) (N := ["script", "found", "cell", "first"]) (b := B__law_pot) M.D__law_pot M.m__law_pot ⟨rfl, rfl, rfl, nd__law_pot, rfl, by decide +kernel, by decide +kernel⟩ (fun cdv A outer s H E hg hr => (ds_cons (ds_set 1 nd__law_pot de_int) (ds_cons (ds_for PassesOwn.never rfl (di_it (de_var 0)) (pg_name nd__law_pot rfl (by first | exact .inl rfl | exact .inr rfl)) (ds_one (ds_set 1 nd__law_pot (de_mod (de_callTy call_int1 clo_int1 rfl M.b_int (da_cons (de_add (de_add (de_mulA (de_var 1) de_int) (de_mod (de_callTy call_int1 clo_int1 rfl M.b_int (da_cons (de_var 2) da_nil)) de_int)) de_int) da_nil)) de_int)))) (ds_cons (ds_set 3 nd__law_pot (de_ifx (dt_cmp op_gt oGt (de_callB (Dl.CallR.or call_len_seq call_len_str) clo_len rfl M.b_len (da_cons (de_var 0) da_nil)) de_int rfl) (de_callB call_abs clo_abs rfl M.b_abs (da_cons (de_ixA hr.u65 (de_var 0) de_int) da_nil)) de_int)) (ds_one (ds_ret (de_new (dl_lst (da_cons (de_callB (call_max2 rfl) clo_max2 rfl M.b_max (da_cons de_int (da_cons (de_sub (de_var 3) (de_pow de_int de_int)) da_nil))) (da_cons (de_add (de_var 1) de_int) da_nil)) (lenS (lenS len0))))))))))
theorem bd__law_pot : Bnd d__law_pot ["script"] 1 [] [0] := fun kV doc pm an cdv ct us ws h1 h2 => match us, ws, h1, h2 with | [_], [], _, _ => rfl
theorem hl__law_pot : ∀ l : List D, l.length = 1 + 0 → (pick [0] l).length = (["script"] : List Str).length := fun l h => match l, h with | [_], _ => rfl
theorem nd_law : (["script"] : List Str).Nodup := by decide +kernel
theorem ok_law {P : Program} {w : World} {K : PySem.W.Frag} {mg : Str → Option Value} {base : Heap} (M : Mg K mg) : Cll P w K mg base 11 d_law ["script"] F_law := Cll.of (k := 10) (N := ["script"]) (b := B_law) M.D_law M.m_law ⟨rfl, rfl, rfl, nd_law, rfl, by decide +kernel, by decide +kernel⟩ (fun cdv A outer s H E hg hr => (ds_one (ds_ret (de_call (ok__law_right M) (by decide) hr hg rfl rfl bd__law_right hl__law_right (da_cons (de_call (ok__law_pot M) (by decide) hr hg rfl rfl bd__law_pot hl__law_pot (da_cons (de_var 0) da_nil)) da_nil)))))
theorem bd_law : Bnd d_law ["script"] 1 [] [0] := fun kV doc pm an cdv ct us ws h1 h2 => match us, ws, h1, h2 with | [_], [], _, _ => rfl
theorem hl_law : ∀ l : List D, l.length = 1 + 0 → (pick [0] l).length = (["script"] : List Str).length := fun l h => match l, h with | [_], _ => rfl
end Lw

set_option maxHeartbeats 1000000
/-! k50: what the small defs do. -/
namespace Lw
open PySem PySem.Spec PyProof.Rows L2 Dl

structure Stp where
  fr : Int
  to : Int
  ws : List Int
  es : List Int
structure Frm where
  S : Int
  C : Int
  ss : List Stp
abbrev Plc := Int × List Int
@[simp] def iD (l : List Int) : D := .tup (l.map .int)
def Stp.d (s : Stp) : D := .tup [.str "step", .int s.fr, .int s.to, .tup (s.ws.map .int), .tup (s.es.map .int), .int 0]
def Frm.d (f : Frm) : D := .tup [.str "farm", .int f.S, .int f.C, .tup (f.ss.map Stp.d)]
def pD (p : Plc) : D := .tup [.int p.1, .tup (p.2.map .int)]
structure Stp.Ok (f : Frm) (s : Stp) : Prop where
  fr0 : 0 ≤ s.fr
  fr1 : s.fr < f.S
  to0 : 0 ≤ s.to
  to1 : s.to < f.S
  wl : (s.ws.length : Int) = f.C
  el : (s.es.length : Int) = f.C
  w9 : ∀ x ∈ s.ws, 0 ≤ x ∧ x ≤ 9
  e9 : ∀ x ∈ s.es, -9 ≤ x ∧ x ≤ 9
  we : ∀ x ∈ s.ws.zip s.es, 0 ≤ x.1 + x.2
structure Frm.Ok (f : Frm) : Prop where
  S1 : 1 ≤ f.S
  S6 : f.S ≤ 6
  C1 : 1 ≤ f.C
  C3 : f.C ≤ 3
  n12 : f.ss.length ≤ 12
  st : ∀ s ∈ f.ss, s.Ok f
/-- a place of any size -/
structure Gp (f : Frm) (p : Plc) : Prop where
  p0 : 0 ≤ p.1
  p1 : p.1 < f.S
  len : (p.2.length : Int) = f.C
  nn : ∀ x ∈ p.2, 0 ≤ x

@[simp] theorem int_ok (i : Int) (M : Mem) : F_is_integer [.int i] M = .ok (.bl true) M := by simp [F_is_integer, B_is_integer]
@[simp] theorem count_ok (i : Int) (M : Mem) : F_is_count [.int i] M = .ok (.bl (decide (0 ≤ i))) M := by simp [F_is_count, B_is_count]
@[simp] theorem posn_ok (i n : Int) (M : Mem) : F_is_position [.int i, .int n] M = .ok (.bl (decide (0 ≤ i) && decide (i < n))) M := by
  simp [F_is_position, B_is_position]
  by_cases h : 0 ≤ i <;> simp [h]
theorem wants_ok {f : Frm} {s : Stp} (h : s.Ok f) (M : Mem) : F_wants_are_right [.int f.C, .tup (s.ws.map .int), .tup (s.es.map .int)] M = .ok (.bl true) M := by
  have e1 : s.ws.length = s.es.length := by have := h.wl; have := h.el; omega
  simp [F_wants_are_right, B_wants_are_right, e1, h.el]
  rw [comp_all2 (l := s.ws) (fun _ => .bl true)]
  · simp
    rw [comp_all2 (l := s.es) (fun _ => .bl true)]
    · simp
      rw [zip_ints, comp_all2 (fun _ => .bl true)]
      · simp
      · intro x hx
        have := h.we x hx
        exact ⟨_, rfl, by simp [this]⟩
    · intro x hx
      have := h.e9 x hx
      exact ⟨_, rfl, by simp; split <;> omega⟩
  · intro x hx
    exact ⟨_, rfl, by simp [h.w9 x hx]⟩
theorem step_ok {f : Frm} {s : Stp} (h : s.Ok f) (M : Mem) : F_step_is_right [.int f.S, .int f.C, s.d] M = .ok (.bl true) M := by
  simp [F_step_is_right, B_step_is_right, Stp.d, wants_ok h, h.fr0, h.fr1, h.to0, h.to1]
theorem ite_ne {c : Bool} (h : c = true) : (if c = false then (1 : Nat) else 2) = 2 := by rw [h]; rfl
theorem flaw_ok {f : Frm} (h : f.Ok) (M : Mem) : F_flaw_of [f.d] M = .ok .non M := by
  have h1 : ¬ (12 < (f.ss.length : Int)) := by have := h.n12; omega
  have := h.S1; have := h.S6; have := h.C1; have := h.C3
  simp [F_flaw_of, B_flaw_of, Frm.d, *]
  rw [comp_all2 (l := f.ss) (fun _ => .bl true)]
  · simp
  · intro s hs
    exact ⟨_, rfl, by simp [step_ok (h.st s hs)]⟩
theorem row_ok {f : Frm} {l : List Int} (h1 : (l.length : Int) = f.C) (h2 : ∀ x ∈ l, 0 ≤ x ∧ x ≤ 999) (M : Mem) : F_row_is_right [.int f.C, .tup (l.map .int)] M = .ok (.bl true) M := by
  simp [F_row_is_right, B_row_is_right, h1]
  rw [comp_all2 (l := l) (fun _ => .bl true)]
  · simp
  · intro x hx
    exact ⟨_, rfl, by simp [h2 x hx]⟩
theorem place_ok {f : Frm} {p : Plc} (h : Gp f p) (h2 : ∀ x ∈ p.2, x ≤ 999) (M : Mem) : F_place_is_right [f.d, pD p] M = .ok (.bl true) M := by
  have := row_ok (f := f) h.len (fun x hx => ⟨h.nn x hx, h2 x hx⟩)
  simp [F_place_is_right, B_place_is_right, Frm.d, pD, h.p0, h.p1, this]
theorem great_ok {f : Frm} {p : Plc} (h : Gp f p) (M : Mem) : F_great_place_is_right [f.d, pD p] M = .ok (.bl true) M := by
  simp [F_great_place_is_right, B_great_place_is_right, Frm.d, pD, h.p0, h.p1, h.len]
  rw [comp_all2 (l := p.2) (fun _ => .bl true)]
  · simp
  · intro x hx
    exact ⟨_, rfl, by simp [h.nn x hx]⟩
theorem cfarm_ok {f : Frm} (h : f.Ok) (M : Mem) : F_check_farm [f.d] M = .ok .non M := by
  simp [F_check_farm, B_check_farm, flaw_ok h]
theorem cplace_ok {f : Frm} {p : Plc} (h : Gp f p) (h2 : ∀ x ∈ p.2, x ≤ 999) (M : Mem) : F_check_place [f.d, pD p] M = .ok .non M := by
  simp [F_check_place, B_check_place, place_ok h h2]
theorem cboth_ok {f : Frm} {p : Plc} (hf : f.Ok) (h : Gp f p) (h2 : ∀ x ∈ p.2, x ≤ 999) (M : Mem) : F_check_both [f.d, pD p] M = .ok .non M := by
  simp [F_check_both, B_check_both, cfarm_ok hf, cplace_ok h h2]
theorem cwithin_ok {f : Frm} {p : Plc} (hf : f.Ok) (h : Gp f p) (h2 : ∀ x ∈ p.2, x ≤ 999) {n : Int} (n0 : 0 ≤ n) (n1 : n ≤ 12) (M : Mem) : F_check_within [f.d, pD p, .int n] M = .ok .non M := by
  have : ¬ (12 < n) := by omega
  simp [F_check_within, B_check_within, cboth_ok hf h h2, n0, this]

/-! ### steps -/
def leB (row other : List Int) : Bool := (row.zip other).all fun x => decide (x.2 ≤ x.1)
def addL (row es : List Int) : List Int := (row.zip es).map fun x => x.1 + x.2
def letB (p : Plc) (s : Stp) : Bool := decide (s.fr = p.1) && leB p.2 s.ws
def go (p : Plc) (s : Stp) : Plc := (s.to, addL p.2 s.es)
theorem least_ok (row other : List Int) (M : Mem) : F_is_least [.tup (row.map .int), .tup (other.map .int)] M = .ok (.bl (leB row other)) M := by
  simp [F_is_least, B_is_least]
  rw [zip_ints, comp_all2 (fun x => .bl (decide (x.2 ≤ x.1)))]
  · simp [leB, List.all_map]
  · intro x hx
    exact ⟨_, rfl, by simp⟩
theorem lawleast_ok (row other : List Int) (M : Mem) : F__law_is_least [.tup (row.map .int), .tup (other.map .int)] M = .ok (.bl (leB row other)) M := by
  simp [F__law_is_least, B__law_is_least]
  rw [zip_ints, comp_all2 (fun x => .bl (decide (x.1 < x.2)))]
  · have : ∀ l : List (Int × Int), (!(l.map fun x => decide (x.1 < x.2)).any id) = l.all fun x => decide (x.2 ≤ x.1) := fun l => by
      induction l with
      | nil => rfl
      | cons x l ih =>
        rw [List.map_cons, List.any_cons, List.all_cons, ← ih, Bool.not_or]
        congr 1
        by_cases h : x.2 ≤ x.1
        · rw [decide_eq_true h, decide_eq_false (by omega : ¬ x.1 < x.2)]; rfl
        · rw [decide_eq_false h, decide_eq_true (by omega : x.1 < x.2)]; rfl
    simp [leB, List.any_map] at this ⊢
    exact this _
  · intro x hx
    exact ⟨_, rfl, by simp⟩
theorem added_ok (row es : List Int) (M : Mem) : F_added [.tup (row.map .int), .tup (es.map .int)] M = .ok (.tup ((addL row es).map .int)) M := by
  simp [F_added, B_added]
  rw [zip_ints, comp_all2 (fun x => .int (x.1 + x.2))]
  · simp [addL]
  · intro x hx
    exact ⟨_, rfl, by simp⟩
theorem islet_ok {f : Frm} {i : Nat} {s : Stp} (h : f.ss[i]? = some s) (p : Plc) (M : Mem) : F_is_let [f.d, pD p, .int i] M = .ok (.bl (letB p s)) M := by
  simp [F_is_let, B_is_let, Frm.d, pD, atN, h, Stp.d, least_ok, letB]
  by_cases e : s.fr = p.1 <;> simp [e]
theorem led_ok {f : Frm} {i : Nat} {s : Stp} (h : f.ss[i]? = some s) (p : Plc) (M : Mem) : F_led_by [f.d, pD p, .int i] M = .ok (pD (go p s)) M := by
  simp [F_led_by, B_led_by, Frm.d, pD, atN, h, Stp.d, added_ok, go]
def lets (f : Frm) (p : Plc) : List Nat := (List.range f.ss.length).filter fun i => match f.ss[i]? with
  | some s => letB p s
  | none => false
theorem lets_ok {f : Frm} (hf : f.Ok) (p : Plc) (M : Mem) : F_let_at [f.d, pD p] M = .ok (.lst ((lets f p).map fun (i : Nat) => .int i)) M := by
  have hl : f.ss.length ≤ sizeLine := by have := hf.n12; rw [sizeLine_eq]; omega
  simp [F_let_at, B_let_at, Frm.d, kRng1_nat hl]
  rw [comp_if2 (fun i => match f.ss[i]? with
    | some s => letB p s
    | none => false) (fun (i : Nat) => .int i)]
  · simp [lets]
  · intro i hi
    obtain ⟨s, hs⟩ : ∃ s, f.ss[i]? = some s := ⟨f.ss[i]'(List.mem_range.mp hi), List.getElem?_eq_getElem _⟩
    have := islet_ok hs p
    simp only [Frm.d] at this
    exact ⟨_, rfl, by simp [this, hs], fun _ => by simp⟩
end Lw

set_option maxHeartbeats 1000000
/-! k50: dicts of places. -/
namespace Lw
open PySem PySem.Spec PyProof.Rows L2 Dl

abbrev Way := List Nat
def wD (w : Way) : D := .tup (w.map fun (n : Nat) => .int n)
def pK (p : Plc) : NestedKey := .tup [.num p.1, .tup (p.2.map .num)]
abbrev Fst := List (Plc × Way)
def fsD (l : Fst) : List (NestedKey × D) := l.map fun e => (pK e.1, wD e.2)
def look (l : Fst) (p : Plc) : Option Way := (l.find? fun e => decide (e.1 = p)).map (·.2)
theorem nks_nums : ∀ l : List Int, nks (l.map D.int) = some (l.map NestedKey.num)
  | [] => by simp [nks]
  | i :: l => by simp [nks, nk, nks_nums l]
theorem nk_pD (p : Plc) : nk (pD p) = some (pK p) := by simp [pD, pK, nk, nks, nks_nums]
theorem kDs_nums : ∀ l : List Int, kDs (l.map NestedKey.num) = l.map D.int
  | [] => by simp [kDs]
  | i :: l => by simp [kDs, kD, kDs_nums l]
theorem kD_pK (p : Plc) : kD (pK p) = pD p := by simp [pD, pK, kD, kDs, kDs_nums]
theorem num_map_inj : ∀ {l m : List Int}, l.map NestedKey.num = m.map NestedKey.num → l = m
  | [], [], _ => rfl
  | [], _ :: _, h => by simp at h
  | _ :: _, [], h => by simp at h
  | a :: l, b :: m, h => by simp at h; rw [h.1, num_map_inj h.2]
theorem pK_inj {p q : Plc} (h : pK p = pK q) : p = q := by
  unfold pK at h
  simp only [NestedKey.tup.injEq, List.cons.injEq, NestedKey.num.injEq, and_true] at h
  obtain ⟨a, b⟩ := p
  obtain ⟨c, d⟩ := q
  simp only at h
  rw [h.1, num_map_inj h.2]
theorem pK_eq {p q : Plc} : decide (pK p = pK q) = decide (p = q) := by
  by_cases h : p = q
  · simp [h]
  · rw [decide_eq_false h, decide_eq_false fun e => h (pK_inj e)]
theorem depths_nums : ∀ l : List Int, NestedKey.depthAll (l.map NestedKey.num) ≤ 1
  | [] => by simp [NestedKey.depthAll]
  | i :: l => by have := depths_nums l; simp [NestedKey.depthAll, NestedKey.depth]; omega
theorem pK_depth (p : Plc) : (pK p).depth ≤ 8 := by
  have := depths_nums p.2
  simp [pK, NestedKey.depth, NestedKey.depthAll]
  omega
theorem val_fsD (l : Fst) (p : Plc) : valD (fsD l) (pK p) = (look l p).map wD := by
  unfold valD fsD look
  induction l with
  | nil => rfl
  | cons e l ih =>
    rw [List.map_cons, List.find?_cons, List.find?_cons]
    simp only
    rw [pK_eq]
    cases decide (e.1 = p) with
    | true => rfl
    | false => exact ih
theorem set_fsD {l : Fst} {p : Plc} (h : look l p = none) (w : Way) : setD (fsD l) (pK p) (wD w) = fsD (l ++ [(p, w)]) := by
  unfold setD
  rw [val_fsD, h]
  simp [fsD]
theorem look_app {l m : Fst} {p : Plc} {w : Way} (h : look l p = some w) : look (l ++ m) p = some w := by
  unfold look at h ⊢
  rw [List.find?_append]
  obtain ⟨e, h1, h2⟩ := Option.map_eq_some_iff.mp h
  rw [h1, ← h2]; rfl
/-! ### one level on -/
/-- memory beside the numbers in ns stays -/
def Kept (ns : List Nat) (M M' : Mem) : Prop := M.length ≤ M'.length ∧ ∀ m, m < M.length → m ∉ ns → M'[m]? = M[m]?
theorem Kept.refl (ns : List Nat) (M : Mem) : Kept ns M M := ⟨Nat.le_refl _, fun _ _ _ => rfl⟩
theorem Kept.trans {ns : List Nat} {M M1 M2 : Mem} (h : Kept ns M M1) (g : Kept ns M1 M2) : Kept ns M M2 := ⟨Nat.le_trans h.1 g.1, fun m hm hn => (g.2 m (Nat.lt_of_lt_of_le hm h.1) hn).trans (h.2 m hm hn)⟩
theorem Kept.at {ns : List Nat} {M M' : Mem} (h : Kept ns M M') {m : Nat} {o : Option MO} (hm : M[m]? = some o) (hn : m ∉ ns) : M'[m]? = some o := by
  rw [h.2 m (lt_of_some hm) hn]; exact hm
def st1 (f : Frm) (w : Way) (p : Plc) (st : Fst × List Plc) (i : Nat) : Fst × List Plc := match f.ss[i]? with
  | some s => if (look st.1 (go p s)).isSome = true then st else (st.1 ++ [(go p s, w ++ [i])], st.2 ++ [go p s])
  | none => st
def stP (f : Frm) (st : Fst × List Plc) (p : Plc) : Fst × List Plc := (lets f p).foldl (st1 f ((look st.1 p).getD []) p) st
def nextL (f : Frm) (l : Fst) (ps : List Plc) : Fst × List Plc := ps.foldl (stP f) (l, [])
theorem st1_grow (f : Frm) (w : Way) (p : Plc) (st : Fst × List Plc) (i : Nat) : ∃ m, (st1 f w p st i).1 = st.1 ++ m := by
  unfold st1
  split
  · split
    · exact ⟨[], by simp⟩
    · exact ⟨_, rfl⟩
  · exact ⟨[], by simp⟩
theorem st1s_grow (f : Frm) (w : Way) (p : Plc) : ∀ (is : List Nat) (st : Fst × List Plc), ∃ m, (is.foldl (st1 f w p) st).1 = st.1 ++ m
  | [], st => ⟨[], by simp⟩
  | i :: is, st => by
    obtain ⟨m, h⟩ := st1_grow f w p st i
    obtain ⟨m2, h2⟩ := st1s_grow f w p is (st1 f w p st i)
    exact ⟨m ++ m2, by rw [List.foldl_cons, h2, h, List.append_assoc]⟩
theorem stP_grow (f : Frm) (st : Fst × List Plc) (p : Plc) : ∃ m, (stP f st p).1 = st.1 ++ m := st1s_grow f _ p _ st
theorem stPs_grow (f : Frm) : ∀ (ps : List Plc) (st : Fst × List Plc), ∃ m, (ps.foldl (stP f) st).1 = st.1 ++ m
  | [], st => ⟨[], by simp⟩
  | p :: ps, st => by
    obtain ⟨m, h⟩ := stP_grow f st p
    obtain ⟨m2, h2⟩ := stPs_grow f ps (stP f st p)
    exact ⟨m ++ m2, by rw [List.foldl_cons, h2, h, List.append_assoc]⟩
/-- the inner turn: one step tried -/
def inEnv (f : Frm) (n k : Nat) (lv : D) (p : Plc) : Dl.Env := [some f.d, some (.adr n), some lv, some (.adr k), some (pD p), none, none]
theorem mem_lets {f : Frm} {p : Plc} {i : Nat} (h : i ∈ lets f p) : ∃ s, f.ss[i]? = some s ∧ letB p s = true := by
  have h2 := (List.mem_filter.mp h).2
  split at h2
  · rename_i s hs
    exact ⟨s, hs, h2⟩
  · cases h2
end Lw

set_option maxHeartbeats 1000000
/-! k50: next_level. -/
namespace Lw
open PySem PySem.Spec PyProof.Rows L2 Dl
section
variable {M : Mem} {n : Nat} {l : Fst}
theorem inA_dic (h : M[n]? = some (some (.dic (fsD l)))) (g : Bool → Bool) (q : Plc) : kInA g (pD q) (.adr n) M = .ok (.bl (g (look l q).isSome)) M := by
  have hd := pK_depth q
  have hv := val_fsD l q
  simp only [kInA, dicAt, h, kInN, nk_pD]
  unfold pK at hd hv ⊢
  simp only [hv]
  rw [if_pos hd, Option.isSome_map]
theorem inA_lck (h : M[n]? = some (some (.lck (fsD l)))) (g : Bool → Bool) (q : Plc) : kInA g (pD q) (.adr n) M = .ok (.bl (g (look l q).isSome)) M := by
  have hd := pK_depth q
  have hv := val_fsD l q
  simp only [kInA, dicAt, h, kInN, nk_pD]
  unfold pK at hd hv ⊢
  simp only [hv]
  rw [if_pos hd, Option.isSome_map]
theorem ixA_dic (h : M[n]? = some (some (.dic (fsD l)))) {q : Plc} {w : Way} (hq : look l q = some w) : kIxA (.adr n) (pD q) M = .ok (wD w) M := by
  have hd := pK_depth q
  have hv := val_fsD l q
  simp only [kIxA, dicAt, h, kIxN, nk_pD]
  unfold pK at hd hv ⊢
  simp only [hv, hq]
  rw [if_pos hd]; rfl
theorem ixA_lck (h : M[n]? = some (some (.lck (fsD l)))) {q : Plc} {w : Way} (hq : look l q = some w) : kIxA (.adr n) (pD q) M = .ok (wD w) M := by
  have hd := pK_depth q
  have hv := val_fsD l q
  simp only [kIxA, dicAt, h, kIxN, nk_pD]
  unfold pK at hd hv ⊢
  simp only [hv, hq]
  rw [if_pos hd]; rfl
theorem setA_dic (h : M[n]? = some (some (.dic (fsD l)))) {q : Plc} (w : Way) (hq : look l q = none) (hl : l.length < sizeLine) : kSetA (.adr n) (pD q) (wD w) M = .ok () (M.set n (some (.dic (fsD (l ++ [(q, w)]))))) := by
  have hd := pK_depth q
  have hv := set_fsD hq w
  simp only [kSetA, dicAt, h, kSetN, nk_pD]
  unfold pK at hd hv ⊢
  simp only [h]
  rw [if_pos ⟨hd, by simpa [fsD] using hl⟩, hv]
theorem getN_dic (h : M[n]? = some (some (.dic (fsD l)))) (q : Plc) : kGetN (.adr n) (pD q) M = .ok (((look l q).map wD).getD .non) M := by
  have hd := pK_depth q
  have hv := val_fsD l q
  simp only [kGetN, dicAt, h, nk_pD]
  unfold pK at hd hv ⊢
  simp only [hv]
  rw [if_pos hd]
end
theorem add_wD {w : Way} (h : w.length + 1 ≤ sizeLine) (i : Nat) (M : Mem) : kAdd (wD w) (.tup [.int (i : Nat)]) M = .ok (wD (w ++ [i])) M := by
  simp [kAdd, wD, h]
@[simp] theorem pD_asL (M : Mem) (p : Plc) : asL M (pD p) = none := rfl
/-- the turn for one step -/
theorem in_turn {f : Frm} {n k : Nat} {lv : D} {p : Plc} {y : Option D} {st : Fst × List Plc} {M : Mem} {w : Way} {i : Nat} {s : Stp} (hs : f.ss[i]? = some s) (hn : M[n]? = some (some (.dic (fsD st.1)))) (hk : M[k]? = some (some (.lst (st.2.map pD)))) (hnk : n ≠ k)
    (hw : look st.1 p = some w) (hwl : w.length + 1 ≤ sizeLine) (hl : st.1.length < sizeLine) (hl2 : st.2.length < sizeLine) :
    ∃ x' y', ((fSq (fSet 6 (eF 3 0 [0, 1, 2] F_led_by (aC (eV 0) (aC (eV 4) (aC (eV 5) aN))) aN)) (fIf (tBl (e2 (kInA (!·)) (eV 6) (eV 1))) (fSq (fAsg (e2 kAdd (e2 kIxA (eV 1) (eV 4)) (eTup (aC (eV 5) aN))) (gSb kSetA (eV 1) (eV 6))) (fDrop (eM kAppend (eV 3) (aC (eV 6) aN)))) fN)))
      [some f.d, some (.adr n), some lv, some (.adr k), some (pD p), some (.int (i : Nat)), y] M =
      .ok (.nx [some f.d, some (.adr n), some lv, some (.adr k), some (pD p), x', y']) (if (look st.1 (go p s)).isSome = true then M else (M.set n (some (.dic (fsD (st.1 ++ [(go p s, w ++ [i])]))))).set k (some (.lst ((st.2 ++ [go p s]).map pD)))) := by
  cases hq : look st.1 (go p s) with
  | some w' =>
    refine ⟨some (.int i), some (pD (go p s)), ?_⟩
    simp [led_ok hs, -kInA, inA_dic hn, hq]
  | none =>
    refine ⟨some (.int i), some (pD (go p s)), ?_⟩
    have hk2 : (M.set n (some (.dic (fsD (st.1 ++ [(go p s, w ++ [i])])))))[k]? = some (some (.lst (st.2.map pD))) := by rw [List.getElem?_set_ne hnk]; exact hk
    simp [led_ok hs, -kInA, -kIxA, -kSetA, -kAdd, inA_dic hn, hq, ixA_dic hn hw, add_wD hwl, setA_dic hn (w ++ [i]) hq hl, hk2, hl2]
theorem st1_size (f : Frm) (w : Way) (p : Plc) (st : Fst × List Plc) (i : Nat) (h : st.2.length ≤ st.1.length) : (st1 f w p st i).2.length ≤ (st1 f w p st i).1.length := by
  unfold st1
  split
  · split
    · exact h
    · simp only [List.length_append, List.length_singleton]; omega
  · exact h
/-- the turn for one place -/
theorem out_turn {f : Frm} (hf : f.Ok) {n k : Nat} {lv : D} {p : Plc} {x y : Option D} {st : Fst × List Plc} {M : Mem} {w : Way} (hn : M[n]? = some (some (.dic (fsD st.1)))) (hk : M[k]? = some (some (.lst (st.2.map pD)))) (hnk : n ≠ k)
    (hw : look st.1 p = some w) (hwl : w.length + 1 ≤ sizeLine) (hb : (stP f st p).1.length < sizeLine) (h2 : st.2.length ≤ st.1.length) :
    ∃ x' y' M', (fFor (fItA (eF 2 0 [0, 1] F_let_at (aC (eV 0) (aC (eV 4) aN)) aN)) (.nm 5) (fSq (fSet 6 (eF 3 0 [0, 1, 2] F_led_by (aC (eV 0) (aC (eV 4) (aC (eV 5) aN))) aN)) (fIf (tBl (e2 (kInA (!·)) (eV 6) (eV 1))) (fSq (fAsg (e2 kAdd (e2 kIxA (eV 1) (eV 4)) (eTup (aC (eV 5) aN))) (gSb kSetA (eV 1) (eV 6))) (fDrop (eM kAppend (eV 3) (aC (eV 6) aN)))) fN)))
      [some f.d, some (.adr n), some lv, some (.adr k), some (pD p), x, y] M =
      .ok (.nx [some f.d, some (.adr n), some lv, some (.adr k), some (pD p), x', y']) M' ∧
      M'[n]? = some (some (.dic (fsD (stP f st p).1))) ∧ M'[k]? = some (some (.lst ((stP f st p).2.map pD))) ∧ Kept [n, k] M M' ∧ (stP f st p).2.length ≤ (stP f st p).1.length := by
  let S : Nat → Fst × List Plc := fun j => ((lets f p).take j).foldl (st1 f w p) st
  have eS : stP f st p = S (lets f p).length := by simp only [S, stP, hw, Option.getD_some, List.take_length]
  have grow : ∀ j, ∃ m, (stP f st p).1 = (S j).1 ++ m := fun j => by
    have e : stP f st p = ((lets f p).drop j).foldl (st1 f w p) (S j) := by
      rw [eS]
      show ((lets f p).take (lets f p).length).foldl _ _ = ((lets f p).drop j).foldl _ (((lets f p).take j).foldl _ _)
      rw [← List.foldl_append, List.take_append_drop, List.take_length]
    rw [e]
    exact st1s_grow f w p _ _
  have size : ∀ j, (S j).2.length ≤ (S j).1.length := fun j => by
    have : ∀ (is : List Nat) (st : Fst × List Plc), st.2.length ≤ st.1.length → (is.foldl (st1 f w p) st).2.length ≤ (is.foldl (st1 f w p) st).1.length := fun is => by
      induction is with
      | nil => intro st h; exact h
      | cons i is ih => intro st h; exact ih _ (st1_size f w p st i h)
    exact this _ st h2
  have step : ∀ j i, (lets f p)[j]? = some i → S (j + 1) = st1 f w p (S j) i := fun j i e => by
    show ((lets f p).take (j + 1)).foldl _ _ = _
    rw [List.take_succ, e, List.foldl_append]
    rfl
  let Iv : Nat → Dl.Env → Mem → Prop := fun j env M' => (∃ x' y', env = [some f.d, some (.adr n), some lv, some (.adr k), some (pD p), x', y']) ∧ M'[n]? = some (some (.dic (fsD (S j).1))) ∧ M'[k]? = some (some (.lst ((S j).2.map pD))) ∧ Kept [n, k] M M'
  obtain ⟨env', M', h3, h4, h5, h6, h7⟩ := loop_inv (M0 := M) (pin := []) (p := .nm 5) (b := (fSq (fSet 6 (eF 3 0 [0, 1, 2] F_led_by (aC (eV 0) (aC (eV 4) (aC (eV 5) aN))) aN)) (fIf (tBl (e2 (kInA (!·)) (eV 6) (eV 1))) (fSq (fAsg (e2 kAdd (e2 kIxA (eV 1) (eV 4)) (eTup (aC (eV 5) aN))) (gSb kSetA (eV 1) (eV 6))) (fDrop (eM kAppend (eV 3) (aC (eV 6) aN)))) fN)))
    (fun (i : Nat) => D.int (i : Nat)) Iv (fun _ _ _ _ => rfl) (lets f p) 0 [some f.d, some (.adr n), some lv, some (.adr k), some (pD p), x, y] M (fun j i env M1 e q => by
      rw [Nat.zero_add] at q ⊢
      obtain ⟨⟨x1, y1, rfl⟩, q1, q2, q3⟩ := q
      obtain ⟨s, hs, _⟩ := mem_lets (List.mem_of_getElem? e)
      obtain ⟨m0, g0⟩ : ∃ m, (S j).1 = st.1 ++ m := st1s_grow f w p _ _
      obtain ⟨m1, g1⟩ := grow (j + 1)
      obtain ⟨m2, g2⟩ := grow j
      have hwj : look (S j).1 p = some w := by rw [g0]; exact look_app hw
      have hsz := size j
      have hlen : (S j).1.length < sizeLine := by rw [g2, List.length_append] at hb; omega
      obtain ⟨x2, y2, hh⟩ := in_turn (lv := lv) (y := y1) hs q1 q2 hnk hwj hwl hlen (by omega)
      refine ⟨[some f.d, some (.adr n), some lv, some (.adr k), some (pD p), some (.int (i : Nat)), y1], _, _, rfl, hh, ⟨x2, y2, rfl⟩, ?_⟩
      have e1 := step j i e
      cases hq : look (S j).1 (go p s) with
      | some w' =>
        have e2 : S (j + 1) = S j := by rw [e1]; simp [st1, hs, hq]
        simp only [Option.isSome_some, if_true]
        rw [e2]
        exact ⟨q1, q2, q3⟩
      | none =>
        have e2 : S (j + 1) = ((S j).1 ++ [(go p s, w ++ [i])], (S j).2 ++ [go p s]) := by rw [e1]; simp [st1, hs, hq]
        simp only [Option.isSome_none, Bool.false_eq_true, if_false]
        rw [e2]
        have ln := lt_of_some q1
        have lk := lt_of_some q2
        refine ⟨?_, ?_, ?_⟩
        · rw [List.getElem?_set_ne (Ne.symm hnk), List.getElem?_set_self ln]
        · rw [List.getElem?_set_self (by simpa using lk)]
        · refine q3.trans ⟨by simp, fun m hm hn' => ?_⟩
          have h1 : n ≠ m := fun e => hn' (by simp [e])
          have h2 : k ≠ m := fun e => hn' (by simp [e])
          rw [List.getElem?_set_ne h2, List.getElem?_set_ne h1]) ⟨⟨x, y, rfl⟩, hn, hk, Kept.refl _ _⟩
  obtain ⟨x', y', rfl⟩ := h4
  rw [Nat.zero_add] at h5 h6
  refine ⟨x', y', M', ?_, by rw [eS]; exact h5, by rw [eS]; exact h6, h7, by rw [eS]; exact size _⟩
  show ((fItA (eF 2 0 [0, 1] F_let_at (aC (eV 0) (aC (eV 4) aN)) aN)) [some f.d, some (.adr n), some lv, some (.adr k), some (pD p), x, y] M).bind (fun l M1 => loopF M1 l.2 (.nm 5) _ l.1 _ M1) = _
  simp only [fItA, eF, aC, aN, eV, List.getElem?_cons_zero, List.getElem?_cons_succ, bind_ok, List.length_cons, List.length_nil, pick, List.filterMap_cons, List.filterMap_nil, List.append_nil]
  simp [lets_ok hf]
  exact h3
end Lw

set_option maxHeartbeats 1000000
/-! k50: next_level, within. -/
namespace Lw
open PySem PySem.Spec PyProof.Rows L2 Dl
theorem next_ok {f : Frm} (hf : f.Ok) {n : Nat} {l : Fst} {ps : List Plc} {M : Mem} (hn : M[n]? = some (some (.dic (fsD l)))) (hw : ∀ p ∈ ps, ∃ w, look l p = some w ∧ w.length + 1 ≤ sizeLine) (hb : (nextL f l ps).1.length < sizeLine) :
    ∃ M', F_next_level [f.d, .adr n, .lst (ps.map pD)] M = .ok (.lst ((nextL f l ps).2.map pD)) M' ∧ M'[n]? = some (some (.dic (fsD (nextL f l ps).1))) ∧ Kept [n] M M' := by
  let S : Nat → Fst × List Plc := fun j => (ps.take j).foldl (stP f) (l, [])
  have eS : nextL f l ps = S ps.length := by simp only [S, nextL, List.take_length]
  have grow : ∀ j, ∃ m, (nextL f l ps).1 = (S j).1 ++ m := fun j => by
    have e : nextL f l ps = (ps.drop j).foldl (stP f) (S j) := by
      show ps.foldl _ _ = (ps.drop j).foldl _ ((ps.take j).foldl _ _)
      rw [← List.foldl_append, List.take_append_drop]
    rw [e]
    exact stPs_grow f _ _
  have step : ∀ j p, ps[j]? = some p → S (j + 1) = stP f (S j) p := fun j p e => by
    show (ps.take (j + 1)).foldl _ _ = _
    rw [List.take_succ, e, List.foldl_append]
    rfl
  have hnl := lt_of_some hn
  let k := M.length
  have hnk : n ≠ k := Nat.ne_of_lt hnl
  let M1 : Mem := M ++ [some (.lst [])]
  let lv : D := .lst (ps.map pD)
  let Iv : Nat → Dl.Env → Mem → Prop := fun j env M' => (∃ z x' y', env = [some f.d, some (.adr n), some lv, some (.adr k), z, x', y']) ∧ M'[n]? = some (some (.dic (fsD (S j).1))) ∧ M'[k]? = some (some (.lst ((S j).2.map pD))) ∧ Kept [n, k] M1 M' ∧ (S j).2.length ≤ (S j).1.length
  obtain ⟨env', M', h3, h4, h5, h6, h7, h8⟩ := loop_inv (M0 := M1) (pin := []) (p := .nm 4) (b := (fFor (fItA (eF 2 0 [0, 1] F_let_at (aC (eV 0) (aC (eV 4) aN)) aN)) (.nm 5) (fSq (fSet 6 (eF 3 0 [0, 1, 2] F_led_by (aC (eV 0) (aC (eV 4) (aC (eV 5) aN))) aN)) (fIf (tBl (e2 (kInA (!·)) (eV 6) (eV 1))) (fSq (fAsg (e2 kAdd (e2 kIxA (eV 1) (eV 4)) (eTup (aC (eV 5) aN))) (gSb kSetA (eV 1) (eV 6))) (fDrop (eM kAppend (eV 3) (aC (eV 6) aN)))) fN))))
    pD Iv (fun _ _ _ _ => rfl) ps 0 [some f.d, some (.adr n), some lv, some (.adr k), none, none, none] M1 (fun j p env M2 e q => by
      rw [Nat.zero_add] at q ⊢
      obtain ⟨⟨z1, x1, y1, rfl⟩, q1, q2, q3, q4⟩ := q
      obtain ⟨w, hw1, hw2⟩ := hw p (List.mem_of_getElem? e)
      obtain ⟨m0, g0⟩ : ∃ m, (S j).1 = l ++ m := stPs_grow f _ _
      obtain ⟨m1, g1⟩ := grow (j + 1)
      have hwj : look (S j).1 p = some w := by rw [g0]; exact look_app hw1
      have e1 := step j p e
      have hlen : (stP f (S j) p).1.length < sizeLine := by rw [← e1]; rw [g1, List.length_append] at hb; omega
      obtain ⟨x2, y2, M3, hh, r1, r2, r3, r4⟩ := out_turn (lv := lv) (x := x1) (y := y1) hf q1 q2 hnk hwj hw2 hlen q4
      refine ⟨[some f.d, some (.adr n), some lv, some (.adr k), some (pD p), x1, y1], _, M3, rfl, hh, ⟨_, x2, y2, rfl⟩, ?_⟩
      rw [e1]
      exact ⟨r1, r2, q3.trans r3, r4⟩) ⟨⟨none, none, none, rfl⟩, by show (M ++ [some (.lst [])])[n]? = _; rw [List.getElem?_append_left hnl]; exact hn, by show (M ++ [some (.lst [])])[M.length]? = _; rw [List.getElem?_append_right (Nat.le_refl _)]; simp [S], Kept.refl _ _, by simp [S]⟩
  obtain ⟨z', x', y', rfl⟩ := h4
  rw [Nat.zero_add] at h5 h6
  rw [← eS] at h5 h6
  have hk := lt_of_some h6
  refine ⟨M'.set k none, ?_, ?_, ?_⟩
  · refine fnF_rt rfl ?_
    refine (fSq_nx (M1 := M1) (e1 := [some f.d, some (.adr n), some lv, some (.adr k), none, none, none]) rfl).trans ?_
    refine (fSq_nx h3).trans ?_
    simp [h6]
  · rw [List.getElem?_set_ne (Ne.symm hnk)]; exact h5
  · refine ⟨by have := h7.1; simp [M1] at this ⊢; omega, fun m hm hn' => ?_⟩
    have h1 : k ≠ m := Nat.ne_of_gt hm
    rw [List.getElem?_set_ne h1, h7.2 m (by simp [M1]; omega) (by simp at hn' ⊢; exact ⟨hn', fun e => h1 e.symm⟩)]
    exact List.getElem?_append_left hm
end Lw

set_option maxHeartbeats 1000000
/-! k50: within, come_within, first_to, first_run. -/
namespace Lw
open PySem PySem.Spec PyProof.Rows L2 Dl
open PySem.W (dataLe alike)
def bfs (f : Frm) (p : Plc) : Nat → Fst × List Plc
  | 0 => ([(p, [])], [p])
  | t + 1 => nextL f (bfs f p t).1 (bfs f p t).2
/-- a level can be gone on -/
def LvOk (f : Frm) (st : Fst × List Plc) : Prop := (∀ q ∈ st.2, ∃ w, look st.1 q = some w ∧ w.length + 1 ≤ sizeLine) ∧ (nextL f st.1 st.2).1.length < sizeLine
theorem nextd_ok {f : Frm} (hf : f.Ok) {n : Nat} {st : Fst × List Plc} {M : Mem} (hn : M[n]? = some (some (.dic (fsD st.1)))) (h : LvOk f st) :
    ∃ M', F_next_level [f.d, .adr n, .lst (st.2.map pD)] M = .ok (.lst ((nextL f st.1 st.2).2.map pD)) M' ∧ M'[n]? = some (some (.dic (fsD (nextL f st.1 st.2).1))) ∧ Kept [n] M M' := next_ok hf hn h.1 h.2
theorem disp_ok (p : Plc) (env : Dl.Env) (M : Mem) (h : env[1]? = some (some (pD p))) : eD1 (eV 1) (eTup aN) env M = .ok (.adr M.length) (M ++ [some (.dic (fsD [(p, [])]))]) := by
  have hd := pK_depth p
  simp [h, nk_pD]
  unfold pK at hd ⊢
  simp [hd, fsD, pK, wD]
theorem Kept.new (M : Mem) (o : Option MO) (ns : List Nat) : Kept ns M (M ++ [o]) := ⟨by simp, fun m hm _ => List.getElem?_append_left hm⟩
theorem Kept.drop {ns ms : List Nat} {M M1 M' : Mem} (h : Kept ms M M1) (g : Kept ns M1 M') (hn : ∀ n ∈ ns, n ∈ ms ∨ M.length ≤ n) : Kept ms M M' := ⟨Nat.le_trans h.1 g.1, fun m hm hm' => by
  rw [g.2 m (Nat.lt_of_lt_of_le hm h.1) (fun z => (hn m z).elim hm' fun z => by omega), h.2 m hm hm']⟩
theorem within_ok {f : Frm} (hf : f.Ok) (p : Plc) {many : Nat} (hm : many ≤ 12) (h : ∀ t, t < many → LvOk f (bfs f p t)) (M : Mem) :
    ∃ M', F_within [f.d, pD p, .int (many : Nat)] M = .ok (.adr M.length) M' ∧ M'[M.length]? = some (some (.dic (fsD (bfs f p many).1))) ∧ Kept [] M M' := by
  let n := M.length
  let M1 : Mem := M ++ [some (.dic (fsD [(p, [])]))]
  let Iv : Nat → Dl.Env → Mem → Prop := fun t env M' => (∃ z, env = [some f.d, some (pD p), some (.int (many : Nat)), some (.adr n), some (.lst ((bfs f p t).2.map pD)), z]) ∧ M'[n]? = some (some (.dic (fsD (bfs f p t).1))) ∧ Kept [] M M'
  obtain ⟨env', M', h3, ⟨z', rfl⟩, h5, h6⟩ := loop_inv (M0 := M1) (pin := []) (p := .nm 5) (b := fSet 4 (eF 3 0 [0, 1, 2] F_next_level (aC (eV 0) (aC (eV 3) (aC (eV 4) aN))) aN)) (fun (i : Nat) => D.int (i : Nat)) Iv (fun _ _ _ _ => rfl) (List.range many) 0
    [some f.d, some (pD p), some (.int (many : Nat)), some (.adr n), some (.lst ([p].map pD)), none] M1 (fun t i env M2 e q => by
      rw [Nat.zero_add] at q ⊢
      obtain ⟨⟨z, rfl⟩, q1, q2⟩ := q
      have ht : t < many := by have := lt_of_some e; simpa using this
      obtain ⟨M3, r1, r2, r3⟩ := nextd_ok hf q1 (h t ht)
      refine ⟨[some f.d, some (pD p), some (.int (many : Nat)), some (.adr n), some (.lst ((bfs f p t).2.map pD)), some (.int (i : Nat))], [some f.d, some (pD p), some (.int (many : Nat)), some (.adr n), some (.lst ((bfs f p (t + 1)).2.map pD)), some (.int (i : Nat))], M3, rfl, by simp [r1, bfs], ⟨_, rfl⟩, r2, q2.drop r3 (by simp [n])⟩)
    ⟨⟨none, rfl⟩, by show (M ++ [some (.dic (fsD [(p, [])]))])[M.length]? = _; rw [List.getElem?_append_right (Nat.le_refl _)]; simp [bfs], Kept.new M _ []⟩
  rw [Nat.zero_add, List.length_range] at h5 
  refine ⟨M', fnF_rt rfl ?_, h5, h6⟩
  refine (fSq_nx (M1 := M1) (e1 := [some f.d, some (pD p), some (.int (many : Nat)), some (.adr n), some (.lst ([p].map pD)), none]) ?_).trans ?_
  · have := disp_ok p [some f.d, some (pD p), some (.int (many : Nat)), none, none, none] M rfl
    show fPar 3 4 _ [some f.d, some (pD p), some (.int (many : Nat)), none, none, none] M = _
    simp only [fPar, aC, this, bind_ok]
    simp
    exact ⟨rfl, rfl⟩
  refine (fSq_nx (M1 := M') (e1 := [some f.d, some (pD p), some (.int (many : Nat)), some (.adr n), some (.lst ((bfs f p (0 + (List.range many).length)).2.map pD)), z']) ?_).trans ?_
  · have hs : many ≤ sizeLine := by rw [sizeLine_eq]; omega
    simp [kRng1_nat hs]
    simpa using h3
  · simp [n]
/-! ### come_within -/
def srt (l : Fst) : List D := (((fsD l).map (·.1)).mergeSort (dataLe false pyK)).map kD
theorem pyKs_nums : ∀ l : List Int, pyKs (l.map NestedKey.num) = l.map PyData.int
  | [] => by simp [pyKs]
  | i :: l => by simp [pyKs, pyK, pyKs_nums l]
theorem pyK_pK (p : Plc) : pyK (pK p) = .tuple [.int p.1, .tuple (p.2.map .int)] := by simp [pK, pyK, pyKs, pyKs_nums]
theorem alike_ints : ∀ l m : List Int, PySem.W.alikeAll (l.map PyData.int) (m.map PyData.int) = true
  | [], _ => by simp [PySem.W.alikeAll]
  | _ :: _, [] => by simp [PySem.W.alikeAll]
  | a :: l, b :: m => by simp [PySem.W.alikeAll, PySem.W.alike, alike_ints l m]
theorem depth_ints : ∀ l : List Int, PyData.depthAll (l.map PyData.int) = 0
  | [] => rfl
  | i :: l => by simp [PyData.depthAll, PyData.depth, depth_ints l]
theorem kSortN_ok {M : Mem} {n : Nat} {l : Fst} (h : M[n]? = some (some (.dic (fsD l)))) : kSortN [.adr n] M = .ok (srt l) M := by
  have hm : (fsD l).map (fun y => pyK y.1) = l.map fun e => pyK (pK e.1) := by simp [fsD]
  have h1 : alikeC ((fsD l).map fun y => pyK y.1) = true := by
    rw [hm]
    unfold alikeC
    rw [List.all_eq_true]
    intro d hd
    rw [List.all_eq_true]
    intro e he
    obtain ⟨a, _, rfl⟩ := List.mem_map.mp hd
    obtain ⟨b, _, rfl⟩ := List.mem_map.mp he
    rw [pyK_pK, pyK_pK]
    simp [PySem.W.alike, PySem.W.alikeAll, alike_ints]
  have h2 : sortC ((fsD l).map fun y => pyK y.1) = true := by
    rw [hm]
    unfold sortC
    rw [Bool.or_eq_true]
    left
    rw [List.all_eq_true]
    intro d hd
    obtain ⟨a, _, rfl⟩ := List.mem_map.mp hd
    rw [pyK_pK]
  have h3 : ((fsD l).all fun y => decide ((pyK y.1).depth ≤ 40)) = true := by
    rw [List.all_eq_true]
    intro y hy
    obtain ⟨a, _, rfl⟩ := List.mem_map.mp hy
    simp only [pyK_pK]
    simp [PyData.depth, PyData.depthAll, depth_ints]
  simp only [kSortN, dicAt, h]
  rw [h1, h2, h3]
  rfl
theorem come_ok {f : Frm} (hf : f.Ok) {p : Plc} (hp : Gp f p) (hp2 : ∀ x ∈ p.2, x ≤ 999) {many : Nat} (hm : many ≤ 12) (h : ∀ t, t < many → LvOk f (bfs f p t)) (M : Mem) :
    ∃ k M', F_come_within [f.d, pD p, .int (many : Nat)] M = .ok (.adr k) M' ∧ M.length ≤ k ∧ M'[k]? = some (some (.lst (srt (bfs f p many).1))) ∧ Kept [] M M' := by
  obtain ⟨M1, h1, h2, h3⟩ := within_ok hf p hm h M
  refine ⟨M1.length, M1 ++ [some (.lst (srt (bfs f p many).1))], ?_, h3.1, by rw [List.getElem?_append_right (Nat.le_refl _)]; simp, h3.trans (Kept.new _ _ _)⟩
  have hs := kSortN_ok h2
  have hc := cwithin_ok hf hp hp2 (n := (many : Nat)) (by omega) (by omega)
  refine fnF_rt rfl ?_
  refine (fSq_nx (M1 := M) (e1 := [some f.d, some (pD p), some (.int (many : Nat))]) (by simp [hc])).trans ?_
  simp [h1, fSortA, soA, h2, hs]
end Lw

set_option maxHeartbeats 1000000
/-! k50: first_to, first_run. -/
namespace Lw
open PySem PySem.Spec PyProof.Rows L2 Dl
def nearB (q goal : Plc) (left : Int) : Bool := (q.2.zip goal.2).all fun x => decide ((if x.1 - x.2 < 0 then -(x.1 - x.2) else x.1 - x.2) ≤ 9 * left)
theorem near_ok (q goal : Plc) (left : Int) (M : Mem) : F_is_near [pD q, pD goal, .int left] M = .ok (.bl (nearB q goal left)) M := by
  have hc : cMul 9 left = true := by simp [cMul]
  simp [F_is_near, B_is_near, pD]
  rw [zip_ints, comp_all2 (fun x => .bl (decide ((if x.1 - x.2 < 0 then -(x.1 - x.2) else x.1 - x.2) ≤ 9 * left)))]
  · simp [nearB, List.all_map]
  · intro x hx
    exact ⟨_, rfl, by simp [hc]⟩
def ft (f : Frm) (goal : Plc) : List Int → Fst × List Plc → Option Way
  | [], st => look st.1 goal
  | left :: r, st => match look st.1 goal with
    | some w => some w
    | none => ft f goal r ((nextL f st.1 st.2).1, (nextL f st.1 st.2).2.filter fun q => nearB q goal left)
def FtOk (f : Frm) (goal : Plc) : List Int → Fst × List Plc → Prop
  | [], _ => True
  | left :: r, st => look st.1 goal = none → LvOk f st ∧ FtOk f goal r ((nextL f st.1 st.2).1, (nextL f st.1 st.2).2.filter fun q => nearB q goal left)
def ftB : Fs := (fSq (fIf (tBl (e2 (kInA id) (eV 2) (eV 4))) (fRet (e2 kIxA (eV 4) (eV 2))) fN) (fSet 5 (fV (fLc [7] (fItA (eF 3 0 [0, 1, 2] F_next_level (aC (eV 0) (aC (eV 4) (aC (eV 5) aN))) aN)) (.nm 7) (tV (eF 3 0 [0, 1, 2] F_is_near (aC (eV 7) (aC (eV 2) (aC (eV 6) aN))) aN)) (eV 7)))))
theorem ft_loop {f : Frm} (hf : f.Ok) {n : Nat} {p goal : Plc} {mn : D} (M0 M00 : Mem) : ∀ (lefts : List Int) (st : Fst × List Plc) (z : Option D) (M : Mem), M[n]? = some (some (.dic (fsD st.1))) → FtOk f goal lefts st → Kept [n] M0 M →
    ∃ M', Kept [n] M0 M' ∧ ((∃ w, ft f goal lefts st = some w ∧ loopF M00 [] (.nm 6) ftB (lefts.map D.int) [some f.d, some (pD p), some (pD goal), some mn, some (.adr n), some (.lst (st.2.map pD)), z, none] M = .ok (.rt (wD w)) M') ∨
      ∃ l' lv z', M'[n]? = some (some (.dic (fsD l'))) ∧ ft f goal lefts st = look l' goal ∧ loopF M00 [] (.nm 6) ftB (lefts.map D.int) [some f.d, some (pD p), some (pD goal), some mn, some (.adr n), some (.lst (st.2.map pD)), z, none] M = .ok (.nx [some f.d, some (pD p), some (pD goal), some mn, some (.adr n), lv, z', none]) M')
  | [], st, z, M, hn, _, hk => ⟨M, hk, .inr ⟨st.1, some (.lst (st.2.map pD)), z, hn, rfl, by simp⟩⟩
  | left :: r, st, z, M, hn, ho, hk => by
    rw [List.map_cons, loop_cons rfl]
    cases hl : look st.1 goal with
    | some w =>
      refine ⟨M, hk, .inl ⟨w, by simp [ft, hl], ?_⟩⟩
      have h1 := ixA_dic hn hl
      simp [ftB, -kIxA, -kInA, inA_dic hn, hl, h1]
    | none =>
      obtain ⟨hlv, hr⟩ := ho hl
      obtain ⟨M1, h1, h2, h3⟩ := nextd_ok hf hn hlv
      have hb : ftB [some f.d, some (pD p), some (pD goal), some mn, some (.adr n), some (.lst (st.2.map pD)), some (.int left), none] M = .ok (.nx [some f.d, some (pD p), some (pD goal), some mn, some (.adr n), some (.lst (((nextL f st.1 st.2).2.filter fun q => nearB q goal left).map pD)), some (.int left), none]) M1 := by
        simp [ftB, -kIxA, -kInA, inA_dic hn, hl, h1]
        rw [comp_if2 (fun q => nearB q goal left) pD]
        · simp
        · intro q hq
          exact ⟨_, rfl, by simp [near_ok], fun _ => by simp⟩
      obtain ⟨M', k', h4⟩ := ft_loop hf (p := p) (mn := mn) M0 M00 r ((nextL f st.1 st.2).1, (nextL f st.1 st.2).2.filter fun q => nearB q goal left) (some (.int left)) M1 h2 hr (hk.trans h3)
      have e : ft f goal (left :: r) st = ft f goal r ((nextL f st.1 st.2).1, (nextL f st.1 st.2).2.filter fun q => nearB q goal left) := by simp [ft, hl]
      refine ⟨M', k', ?_⟩
      rw [e]
      have hb' : ftB ([some f.d, some (pD p), some (pD goal), some mn, some (.adr n), some (.lst (st.2.map pD)), z, none].set 6 (some (.int left))) M = .ok (.nx [some f.d, some (pD p), some (pD goal), some mn, some (.adr n), some (.lst (((nextL f st.1 st.2).2.filter fun q => nearB q goal left).map pD)), some (.int left), none]) M1 := hb
      rw [hb']
      exact h4
def lefts (m : Nat) : List Int := (List.range m).map fun (k : Nat) => (m : Int) - 1 - k
theorem fto_ok {f : Frm} (hf : f.Ok) {p goal : Plc} (h : FtOk f goal (lefts 12) ([(p, [])], [p])) (M : Mem) :
    ∃ M', F_first_to [f.d, pD p, pD goal, .int 12] M = .ok (((ft f goal (lefts 12) ([(p, [])], [p])).map wD).getD .non) M' ∧ Kept [] M M' := by
  let n := M.length
  let M1 : Mem := M ++ [some (.dic (fsD [(p, [])]))]
  have hn : M1[n]? = some (some (.dic (fsD [(p, [])]))) := by show (M ++ _)[M.length]? = _; rw [List.getElem?_append_right (Nat.le_refl _)]; simp
  obtain ⟨M', hk, hh⟩ := ft_loop hf (p := p) (mn := .int 12) M1 M1 (lefts 12) ([(p, [])], [p]) none M1 hn h (Kept.refl _ _)
  have hk2 : Kept [] M M' := (Kept.new M _ []).drop hk (by simp [n])
  have first : fPar 4 5 (aC (eD1 (eV 1) (eTup aN)) (aC (fV (aC (eV 1) aN)) aN)) [some f.d, some (pD p), some (pD goal), some (.int 12), none, none, none, none] M = .ok (.nx [some f.d, some (pD p), some (pD goal), some (.int 12), some (.adr n), some (.lst ([p].map pD)), none, none]) M1 := by
    have := disp_ok p [some f.d, some (pD p), some (pD goal), some (.int 12), none, none, none, none] M rfl
    simp only [fPar, aC, this, bind_ok]
    simp
    exact ⟨rfl, rfl⟩
  have items : (fRevR (eV 3)) [some f.d, some (pD p), some (pD goal), some (.int 12), some (.adr n), some (.lst ([p].map pD)), none, none] M1 = .ok ((lefts 12).map D.int, []) M1 := by
    have := kRevR_int (j := 12) (M := M1) (by decide) (by rw [sizeLine_eq]; decide)
    simp [this, lefts]
  have run : fFor (fRevR (eV 3)) (.nm 6) ftB [some f.d, some (pD p), some (pD goal), some (.int 12), some (.adr n), some (.lst ([p].map pD)), none, none] M1 = loopF M1 [] (.nm 6) ftB ((lefts 12).map D.int) [some f.d, some (pD p), some (pD goal), some (.int 12), some (.adr n), some (.lst ([p].map pD)), none, none] M1 := by
    unfold fFor
    rw [items]; rfl
  refine ⟨M', fnF_rt rfl ?_, hk2⟩
  refine (fSq_nx (M1 := M1) first).trans ?_
  show fSq (fFor (fRevR (eV 3)) (.nm 6) ftB) (fRet (eGetN (eV 4) (eV 2))) _ M1 = _
  rcases hh with ⟨w, h1, h2⟩ | ⟨l', lv, z', h1, h2, h3⟩
  · rw [h1]
    exact fSq_rt (run.trans h2)
  · refine (fSq_nx (run.trans h3)).trans ?_
    rw [h2]
    simp [eGetN, h1, getN_dic h1]
theorem frun_ok {f : Frm} (hf : f.Ok) {p goal : Plc} (hp : Gp f p) (hp2 : ∀ x ∈ p.2, x ≤ 999) (hg : Gp f goal) (h : FtOk f goal (lefts 12) ([(p, [])], [p])) (M : Mem) :
    ∃ M', F_first_run [f.d, pD p, pD goal] M = .ok (((ft f goal (lefts 12) ([(p, [])], [p])).map wD).getD .non) M' ∧ Kept [] M M' := by
  obtain ⟨M', h1, h2⟩ := fto_ok hf h M
  refine ⟨M', fnF_rt rfl ?_, h2⟩
  simp [F_first_run, B_first_run, cboth_ok hf hp hp2, great_ok hg, h1]
end Lw

set_option maxHeartbeats 1000000
/-! k50: the plain law: runs, first runs. -/
namespace Lw
open Dl
abbrev Ent := Way × Plc
def exts (f : Frm) (e : Ent) : List Ent := (lets f e.2).filterMap fun i => (f.ss[i]?).map fun s => (e.1 ++ [i], go e.2 s)
def ins (F : Fst) (e : Ent) : Fst := if (look F e.2).isSome = true then F else F ++ [(e.2, e.1)]
def insL (F : Fst) (R : List Ent) : Fst := R.foldl ins F
def newE : Fst → List Ent → Fst
  | _, [] => []
  | F, e :: R => if (look F e.2).isSome = true then newE F R else (e.2, e.1) :: newE (F ++ [(e.2, e.1)]) R
def keys (F : Fst) : List Plc := F.map (·.1)
theorem look_isSome {F : Fst} {p : Plc} : (look F p).isSome = true ↔ p ∈ keys F := by
  unfold look keys
  rw [Option.isSome_map, List.find?_isSome]
  constructor
  · rintro ⟨x, hx, h⟩; exact List.mem_map.mpr ⟨x, hx, of_decide_eq_true h⟩
  · intro h
    obtain ⟨x, hx, e⟩ := List.mem_map.mp h
    exact ⟨x, hx, decide_eq_true e⟩
theorem look_none {F : Fst} {p : Plc} : look F p = none ↔ p ∉ keys F := by
  rw [← look_isSome]
  cases look F p <;> simp
theorem keys_app (F G : Fst) : keys (F ++ G) = keys F ++ keys G := List.map_append
theorem insL_new : ∀ (R : List Ent) (F : Fst), insL F R = F ++ newE F R
  | [], F => by simp [insL, newE]
  | e :: R, F => by
    show insL (ins F e) R = _
    rw [insL_new R, newE]
    unfold ins
    split
    · rfl
    · simp
theorem insL_app (F : Fst) (R S : List Ent) : insL F (R ++ S) = insL (insL F R) S := List.foldl_append
theorem insL_keys (F : Fst) (R : List Ent) {p : Plc} (h : p ∈ keys F) : p ∈ keys (insL F R) := by
  rw [insL_new, keys_app]; exact List.mem_append_left _ h
theorem insL_has : ∀ (R : List Ent) (F : Fst) {e : Ent}, e ∈ R → e.2 ∈ keys (insL F R)
  | r :: R, F, e, h => by
    show e.2 ∈ keys (insL (ins F r) R)
    rcases List.mem_cons.mp h with rfl | h
    · refine insL_keys _ _ ?_
      unfold ins
      split
      · rename_i h; exact look_isSome.mp h
      · rw [keys_app]; exact List.mem_append_right _ (List.mem_singleton.mpr rfl)
    · exact insL_has R _ h
theorem insL_noop : ∀ (R : List Ent) (F : Fst), (∀ e ∈ R, e.2 ∈ keys F) → insL F R = F
  | [], _, _ => rfl
  | e :: R, F, h => by
    show insL (ins F e) R = F
    have : ins F e = F := if_pos (look_isSome.mpr (h e List.mem_cons_self))
    rw [this]
    exact insL_noop R F fun x hx => h x (List.mem_cons_of_mem _ hx)
theorem insL_nodup : ∀ (R : List Ent) (F : Fst), (keys F).Nodup → (keys (insL F R)).Nodup
  | [], _, h => h
  | e :: R, F, h => by
    show (keys (insL (ins F e) R)).Nodup
    refine insL_nodup R _ ?_
    unfold ins
    split
    · exact h
    · rename_i hn
      rw [keys_app, List.nodup_append]
      exact ⟨h, by simp [keys], fun a ha b hb e => by
        simp [keys] at hb
        subst hb; subst e
        exact hn (look_isSome.mpr ha)⟩
theorem mem_insL : ∀ (R : List Ent) (F : Fst) {q : Plc} {w : Way}, (q, w) ∈ insL F R → (q, w) ∈ F ∨ (w, q) ∈ R
  | [], _, _, _, h => .inl h
  | e :: R, F, q, w, h => by
    rcases mem_insL R (ins F e) h with h | h
    · unfold ins at h
      split at h
      · exact .inl h
      · rcases List.mem_append.mp h with h | h
        · exact .inl h
        · right
          have := List.mem_singleton.mp h
          cases this
          exact List.mem_cons_self
    · exact .inr (List.mem_cons_of_mem _ h)
theorem look_mem {F : Fst} {q : Plc} {w : Way} (h : look F q = some w) : (q, w) ∈ F := by
  unfold look at h
  obtain ⟨e, h1, h2⟩ := Option.map_eq_some_iff.mp h
  have h3 := List.find?_some h1
  have h4 := List.mem_of_find?_eq_some h1
  obtain ⟨a, b⟩ := e
  have : a = q := of_decide_eq_true h3
  subst this
  cases h2
  exact h4
theorem look_of {F : Fst} (hn : (keys F).Nodup) {q : Plc} {w : Way} (h : (q, w) ∈ F) : look F q = some w := by
  induction F with
  | nil => cases h
  | cons e F ih =>
    obtain ⟨a, b⟩ := e
    have hn' := List.nodup_cons.mp hn
    rcases List.mem_cons.mp h with h | h
    · cases h; simp [look]
    · have : a ≠ q := fun e => hn'.1 (by rw [e]; exact List.mem_map.mpr ⟨_, h, rfl⟩)
      have h2 := ih hn'.2 h
      unfold look at h2 ⊢
      rw [List.find?_cons]
      simp only [decide_eq_false this]
      exact h2
theorem exts_key {f : Frm} {w w' : Way} {q : Plc} {e : Ent} (h : e ∈ exts f (w, q)) : ∃ e' ∈ exts f (w', q), e'.2 = e.2 := by
  unfold exts at h ⊢
  obtain ⟨i, hi, h⟩ := List.mem_filterMap.mp h
  obtain ⟨s, hs, rfl⟩ := Option.map_eq_some_iff.mp h
  exact ⟨(w' ++ [i], go q s), List.mem_filterMap.mpr ⟨i, hi, by simp [hs]⟩, rfl⟩
def sw (x : Plc × Way) : Ent := (x.2, x.1)
/-- doubles lead nowhere new -/
theorem dedupe (f : Frm) (g : Plc → Bool) : ∀ (R : List Ent) (F0 F : Fst), (∀ q ∈ keys F0, g q = true → ∀ w, ∀ e ∈ exts f (w, q), e.2 ∈ keys F) →
    insL F ((R.filter fun e => g e.2).flatMap (exts f)) = insL F ((((newE F0 R).filter fun x => g x.1).map sw).flatMap (exts f))
  | [], _, _, _ => rfl
  | (w, q) :: R, F0, F, h => by
    by_cases hq : (look F0 q).isSome = true
    · have e1 : newE F0 ((w, q) :: R) = newE F0 R := by rw [newE, if_pos hq]
      rw [e1]
      cases hg : g q with
      | false =>
        rw [List.filter_cons_of_neg (by simp [hg])]
        exact dedupe f g R F0 F h
      | true =>
        rw [List.filter_cons_of_pos (by simpa using hg), List.flatMap_cons, insL_app, insL_noop (exts f (w, q)) F (h q (look_isSome.mp hq) hg w)]
        exact dedupe f g R F0 F h
    · have e1 : newE F0 ((w, q) :: R) = (q, w) :: newE (F0 ++ [(q, w)]) R := by rw [newE, if_neg hq]
      rw [e1]
      cases hg : g q with
      | false =>
        rw [List.filter_cons_of_neg (by simp [hg]), List.filter_cons_of_neg (by simp [hg])]
        refine dedupe f g R _ F fun q' hq' hg' => ?_
        rw [keys_app] at hq'
        rcases List.mem_append.mp hq' with z | z
        · exact h q' z hg'
        · simp [keys] at z
          subst z
          rw [hg] at hg'; cases hg'
      | true =>
        rw [List.filter_cons_of_pos (by simpa using hg), List.filter_cons_of_pos (by simpa using hg), List.map_cons, List.flatMap_cons, List.flatMap_cons, insL_app, insL_app]
        refine dedupe f g R _ _ fun q' hq' hg' w' e he => ?_
        rw [keys_app] at hq'
        rcases List.mem_append.mp hq' with z | z
        · exact insL_keys _ _ (h q' z hg' w' e he)
        · simp [keys] at z
          subst z
          obtain ⟨e', he', e2⟩ := exts_key (w' := w) he
          rw [← e2]
          exact insL_has _ _ he'
/-! ### the program's levels -/
theorem lets_sp {f : Frm} {q : Plc} {i : Nat} (h : i ∈ lets f q) : ∃ s, f.ss[i]? = some s := let ⟨s, h, _⟩ := mem_lets h; ⟨s, h⟩
theorem stP_ins (f : Frm) (st : Fst × List Plc) (p : Plc) : stP f st p = (insL st.1 (exts f ((look st.1 p).getD [], p)), st.2 ++ (newE st.1 (exts f ((look st.1 p).getD [], p))).map (·.1)) := by
  unfold stP exts
  generalize (look st.1 p).getD [] = w
  have : ∀ (is : List Nat) (st : Fst × List Plc), is.foldl (st1 f w p) st = (insL st.1 (is.filterMap fun i => (f.ss[i]?).map fun s => (w ++ [i], go p s)), st.2 ++ (newE st.1 (is.filterMap fun i => (f.ss[i]?).map fun s => (w ++ [i], go p s))).map (·.1)) := fun is => by
    induction is with
    | nil => intro st; simp [insL, newE]
    | cons i is ih =>
      intro st
      rw [List.foldl_cons, ih]
      cases hs : f.ss[i]? with
      | none => simp [st1, hs]
      | some s =>
        simp only [st1, hs, List.filterMap_cons, Option.map_some]
        by_cases hq : (look st.1 (go p s)).isSome = true
        · simp only [hq, if_true, insL, List.foldl_cons, ins, newE]
        · simp only [hq, if_false, insL, List.foldl_cons, ins, newE]
          simp
  exact this _ st
theorem newE_app : ∀ (R S : List Ent) (F : Fst), newE F (R ++ S) = newE F R ++ newE (insL F R) S
  | [], S, F => by simp [newE, insL]
  | e :: R, S, F => by
    rw [List.cons_append, newE, newE]
    show _ = _ ++ newE (insL (ins F e) R) S
    unfold ins
    split
    · exact newE_app R S F
    · rw [List.cons_append, newE_app R S]
theorem nextL_ins (f : Frm) : ∀ (ps : List Plc) (st : Fst × List Plc), (∀ p ∈ ps, (look st.1 p).isSome = true) → ps.foldl (stP f) st = (insL st.1 (ps.flatMap fun p => exts f ((look st.1 p).getD [], p)), st.2 ++ (newE st.1 (ps.flatMap fun p => exts f ((look st.1 p).getD [], p))).map (·.1))
  | [], st, _ => by simp [insL, newE]
  | p :: ps, st, h => by
    rw [List.foldl_cons, stP_ins, nextL_ins f ps]
    · have e : ∀ q ∈ ps, look (insL st.1 (exts f ((look st.1 p).getD [], p))) q = look st.1 q := fun q hq => by
        obtain ⟨w, hw⟩ := Option.isSome_iff_exists.mp (h q (List.mem_cons_of_mem _ hq))
        rw [hw, insL_new]
        exact look_app hw
      have e2 : (ps.flatMap fun q => exts f ((look (insL st.1 (exts f ((look st.1 p).getD [], p))) q).getD [], q)) = ps.flatMap fun q => exts f ((look st.1 q).getD [], q) := by
        have : ∀ (ps : List Plc), (∀ q ∈ ps, look (insL st.1 (exts f ((look st.1 p).getD [], p))) q = look st.1 q) → (ps.flatMap fun q => exts f ((look (insL st.1 (exts f ((look st.1 p).getD [], p))) q).getD [], q)) = ps.flatMap fun q => exts f ((look st.1 q).getD [], q) := fun ps => by
          induction ps with
          | nil => intro _; rfl
          | cons q ps ih =>
            intro h
            rw [List.flatMap_cons, List.flatMap_cons, h q List.mem_cons_self, ih fun q hq => h q (List.mem_cons_of_mem _ hq)]
        exact this ps e
      simp only
      rw [e2, List.flatMap_cons, insL_app, newE_app, List.map_append, List.append_assoc]
    · intro q hq
      simp only
      rw [look_isSome]
      exact insL_keys _ _ (look_isSome.mp (h q (List.mem_cons_of_mem _ hq)))
end Lw

set_option maxHeartbeats 1000000
/-! k50: levels and runs. -/
namespace Lw
open Dl
section
variable (f : Frm) (p : Plc) (gd : Nat → Plc → Bool)
def runsG : Nat → List Ent
  | 0 => [([], p)]
  | t + 1 => ((runsG t).filter fun e => gd t e.2).flatMap (exts f)
def BG : Nat → Fst
  | 0 => [(p, [])]
  | t + 1 => insL (BG t) (runsG f p gd (t + 1))
def prevB : Nat → Fst
  | 0 => []
  | t + 1 => BG f p gd t
def NG (t : Nat) : Fst := newE (prevB f p gd t) (runsG f p gd t)
def stG : Nat → Fst × List Plc
  | 0 => ([(p, [])], [p])
  | t + 1 => ((nextL f (stG t).1 (stG t).2).1, (nextL f (stG t).1 (stG t).2).2.filter (gd (t + 1)))
end
section
variable {f : Frm} {p : Plc} {gd : Nat → Plc → Bool}
theorem BG_eq (t : Nat) : BG f p gd t = insL (prevB f p gd t) (runsG f p gd t) := by
  cases t with
  | zero => rfl
  | succ t => rfl
theorem BG_split (t : Nat) : BG f p gd t = prevB f p gd t ++ NG f p gd t := by rw [BG_eq, insL_new]; rfl
theorem BG_nodup : ∀ t, (keys (BG f p gd t)).Nodup
  | 0 => by simp [keys, BG]
  | t + 1 => insL_nodup _ _ (BG_nodup t)
theorem BG_grow {s t : Nat} (h : s ≤ t) : ∃ m, BG f p gd t = BG f p gd s ++ m := by
  induction h with
  | refl => exact ⟨[], by simp⟩
  | @step t h ih =>
    obtain ⟨m, e⟩ := ih
    exact ⟨m ++ newE (BG f p gd t) (runsG f p gd (t + 1)), by
      show insL (BG f p gd t) _ = _
      rw [insL_new, ← List.append_assoc, ← e]⟩
theorem filter_fst (l : Fst) (g : Plc → Bool) : (l.map (·.1)).filter g = (l.filter fun x => g x.1).map (·.1) := by
  rw [List.filter_map]; rfl
theorem stG_eq (mono : ∀ t q, gd (t + 1) q = true → gd t q = true) (g0 : gd 0 p = true) : ∀ t, (stG f p gd t).1 = BG f p gd t ∧ (stG f p gd t).2 = ((NG f p gd t).filter fun x => gd t x.1).map (·.1) ∧
    ∀ q ∈ keys (prevB f p gd t), gd t q = true → ∀ w, ∀ e ∈ exts f (w, q), e.2 ∈ keys (BG f p gd t)
  | 0 => ⟨rfl, by simp [stG, NG, newE, prevB, runsG, look, g0], fun q hq => by simp [keys, prevB] at hq⟩
  | t + 1 => by
    obtain ⟨h1, h2, h3⟩ := stG_eq mono g0 t
    have hN : ∀ x ∈ NG f p gd t, look (BG f p gd t) x.1 = some x.2 := fun x hx => look_of (BG_nodup t) (by rw [BG_split]; exact List.mem_append_right _ hx)
    have lv : ∀ q ∈ (stG f p gd t).2, (look (stG f p gd t).1 q).isSome = true := fun q hq => by
      rw [h2] at hq
      obtain ⟨x, hx, rfl⟩ := List.mem_map.mp hq
      rw [h1, hN x ((List.mem_filter.mp hx).1)]; rfl
    have hX : ((stG f p gd t).2.flatMap fun q => exts f ((look (stG f p gd t).1 q).getD [], q)) = (((NG f p gd t).filter fun x => gd t x.1).map sw).flatMap (exts f) := by
      rw [h2, h1]
      have : ∀ l : Fst, (∀ x ∈ l, look (BG f p gd t) x.1 = some x.2) → ((l.map (·.1)).flatMap fun q => exts f ((look (BG f p gd t) q).getD [], q)) = (l.map sw).flatMap (exts f) := fun l => by
        induction l with
        | nil => intro _; rfl
        | cons x l ih =>
          intro h
          rw [List.map_cons, List.map_cons, List.flatMap_cons, List.flatMap_cons, ih fun y hy => h y (List.mem_cons_of_mem _ hy), h x List.mem_cons_self]
          rfl
      exact this _ fun x hx => hN x ((List.mem_filter.mp hx).1)
    have hD := dedupe f (gd t) (runsG f p gd t) (prevB f p gd t) (BG f p gd t) h3
    have e := nextL_ins f (stG f p gd t).2 ((stG f p gd t).1, []) lv
    have e1 : (nextL f (stG f p gd t).1 (stG f p gd t).2).1 = BG f p gd (t + 1) := by
      unfold nextL
      rw [e]
      simp only
      rw [hX, h1]
      exact hD.symm
    have e2 : (nextL f (stG f p gd t).1 (stG f p gd t).2).2 = (NG f p gd (t + 1)).map (·.1) := by
      unfold nextL
      rw [e]
      simp only [List.nil_append]
      rw [hX, h1]
      congr 1
      have z : insL (BG f p gd t) ((((NG f p gd t).filter fun x => gd t x.1).map sw).flatMap (exts f)) = insL (BG f p gd t) (runsG f p gd (t + 1)) := hD.symm
      rw [insL_new, insL_new] at z
      exact List.append_cancel_left z
    refine ⟨e1, ?_, fun q hq hg w e' he => ?_⟩
    · show (nextL f _ _).2.filter _ = _
      rw [e2, filter_fst]
    · have hq : q ∈ keys (BG f p gd t) := hq
      have hB : BG f p gd (t + 1) = insL (BG f p gd t) ((((NG f p gd t).filter fun x => gd t x.1).map sw).flatMap (exts f)) := hD
      rw [BG_split, keys_app] at hq
      rcases List.mem_append.mp hq with hq | hq
      · exact insL_keys _ _ (h3 q hq (mono t q hg) w e' he)
      · obtain ⟨x, hx, rfl⟩ := List.mem_map.mp hq
        obtain ⟨e2, he2, k⟩ := exts_key (w' := x.2) he
        rw [hB, ← k]
        refine insL_has _ _ (List.mem_flatMap.mpr ⟨sw x, List.mem_map.mpr ⟨x, List.mem_filter.mpr ⟨hx, mono t _ hg⟩, rfl⟩, he2⟩)
end
end Lw

set_option maxHeartbeats 1000000
/-! k50: what runs are; the near ones. -/
namespace Lw
open Dl PySem
theorem exts_of {f : Frm} {e e' : Ent} (h : e' ∈ exts f e) : ∃ i s, f.ss[i]? = some s ∧ letB e.2 s = true ∧ e' = (e.1 ++ [i], go e.2 s) := by
  obtain ⟨i, hi, h⟩ := List.mem_filterMap.mp h
  obtain ⟨s, hs, hl⟩ := mem_lets hi
  rw [hs] at h
  exact ⟨i, s, hs, hl, (Option.some.inj h).symm⟩
theorem exts_in {f : Frm} {e : Ent} {i : Nat} {s : Stp} (hs : f.ss[i]? = some s) (hl : letB e.2 s = true) : (e.1 ++ [i], go e.2 s) ∈ exts f e := by
  refine List.mem_filterMap.mpr ⟨i, List.mem_filter.mpr ⟨List.mem_range.mpr (lt_of_some hs), by rw [hs]; exact hl⟩, by rw [hs]; rfl⟩
theorem addL_nn : ∀ (row ws es : List Int), leB row ws = true → (∀ x ∈ ws.zip es, 0 ≤ x.1 + x.2) → row.length = ws.length → ∀ y ∈ addL row es, 0 ≤ y
  | [], _, _, _, _, _, y, hy => by simp [addL] at hy
  | _ :: _, [], _, _, _, hl, _, _ => by simp at hl
  | _ :: _, _ :: _, [], _, _, _, y, hy => by simp [addL] at hy
  | a :: row, b :: ws, c :: es, h, g, hl, y, hy => by
    have h' : decide (b ≤ a) = true ∧ leB row ws = true := by simpa [leB] using h
    have g0 := g (b, c) (by simp)
    simp only at g0
    have e : addL (a :: row) (c :: es) = (a + c) :: addL row es := rfl
    rw [e] at hy
    rcases List.mem_cons.mp hy with rfl | hy
    · have := of_decide_eq_true h'.1; omega
    · exact addL_nn row ws es h'.2 (fun x hx => g x (by rw [List.zip_cons_cons]; exact List.mem_cons_of_mem _ hx)) (by simpa using hl) y hy
theorem addL_le : ∀ (row es : List Int) (m : Int), (∀ x ∈ row, x ≤ m) → (∀ x ∈ es, -9 ≤ x ∧ x ≤ 9) → ∀ y ∈ addL row es, y ≤ m + 9
  | [], _, _, _, _, y, hy => by simp [addL] at hy
  | _ :: _, [], _, _, _, y, hy => by simp [addL] at hy
  | a :: row, c :: es, m, h, g, y, hy => by
    have e : addL (a :: row) (c :: es) = (a + c) :: addL row es := rfl
    rw [e] at hy
    rcases List.mem_cons.mp hy with rfl | hy
    · have h1 := h a List.mem_cons_self; have h2 := g c List.mem_cons_self; omega
    · exact addL_le row es m (fun x hx => h x (List.mem_cons_of_mem _ hx)) (fun x hx => g x (List.mem_cons_of_mem _ hx)) y hy
theorem addL_len {row es : List Int} (h : row.length = es.length) : (addL row es).length = row.length := by simp [addL, h]
theorem go_gp {f : Frm} (hf : f.Ok) {q : Plc} {i : Nat} {s : Stp} (hs : f.ss[i]? = some s) (hl : letB q s = true) (hq : Gp f q) : Gp f (go q s) := by
  have so := hf.st s (List.mem_of_getElem? hs)
  have hl2 : leB q.2 s.ws = true := by
    unfold letB at hl
    exact ((Bool.and_eq_true _ _).mp hl).2
  have e1 : q.2.length = s.ws.length := by have := hq.len; have := so.wl; omega
  have e2 : q.2.length = s.es.length := by have := hq.len; have := so.el; omega
  exact ⟨so.to0, so.to1, by show ((addL q.2 s.es).length : Int) = f.C; rw [addL_len e2]; exact hq.len, addL_nn q.2 s.ws s.es hl2 so.we e1⟩
structure RunOk (f : Frm) (m : Int) (t : Nat) (e : Ent) : Prop where
  gp : Gp f e.2
  len : e.1.length = t
  le : ∀ x ∈ e.2.2, x ≤ m + 9 * t
theorem runsG_ok {f : Frm} (hf : f.Ok) {p : Plc} {gd : Nat → Plc → Bool} {m : Int} (hp : Gp f p) (hm : ∀ x ∈ p.2, x ≤ m) : ∀ t, ∀ e ∈ runsG f p gd t, RunOk f m t e
  | 0, e, he => by
    have : e = ([], p) := List.mem_singleton.mp he
    subst this
    exact ⟨hp, rfl, fun x hx => by have := hm x hx; simpa using this⟩
  | t + 1, e, he => by
    obtain ⟨e0, h0, h1⟩ := List.mem_flatMap.mp he
    have r := runsG_ok hf hp hm t e0 (List.mem_filter.mp h0).1
    obtain ⟨i, s, hs, hl, rfl⟩ := exts_of h1
    have so := hf.st s (List.mem_of_getElem? hs)
    refine ⟨go_gp hf hs hl r.gp, by simp [r.len], fun x hx => ?_⟩
    have := addL_le e0.2.2 s.es (m + 9 * t) r.le so.e9 x hx
    have e : m + 9 * ((t + 1 : Nat) : Int) = m + 9 * (t : Int) + 9 := by omega
    rw [e]; exact this
theorem BG_mem {f : Frm} {p : Plc} {gd : Nat → Plc → Bool} : ∀ {t : Nat} {q : Plc} {w : Way}, (q, w) ∈ BG f p gd t → ∃ s, s ≤ t ∧ (w, q) ∈ runsG f p gd s
  | 0, q, w, h => by
    have := List.mem_singleton.mp h
    cases this
    exact ⟨0, Nat.le_refl _, List.mem_singleton.mpr rfl⟩
  | t + 1, q, w, h => by
    rcases mem_insL _ _ h with h | h
    · obtain ⟨s, h1, h2⟩ := BG_mem h
      exact ⟨s, Nat.le_succ_of_le h1, h2⟩
    · exact ⟨t + 1, Nat.le_refl _, h⟩
theorem BG_run {f : Frm} {p : Plc} {gd : Nat → Plc → Bool} {t : Nat} {e : Ent} (h : e ∈ runsG f p gd t) : e.2 ∈ keys (BG f p gd t) := by
  rw [BG_eq]; exact insL_has _ _ h
/-! ### how many -/
theorem nodup_lt : ∀ (n : Nat) (l : List Nat), l.Nodup → (∀ x ∈ l, x < n) → l.length ≤ n
  | 0, [], _, _ => Nat.le_refl _
  | 0, x :: l, _, h => absurd (h x List.mem_cons_self) (Nat.not_lt_zero _)
  | n + 1, l, hn, h => by
    have h1 := nodup_lt n (l.filter fun x => decide (x ≠ n)) (hn.filter _) (fun x hx => by
      obtain ⟨a, b⟩ := List.mem_filter.mp hx
      have := h x a; have := of_decide_eq_true b; omega)
    have h2 : l.length ≤ (l.filter fun x => decide (x ≠ n)).length + 1 := by
      clear h h1
      induction l with
      | nil => simp
      | cons a l ih =>
        have hn' := List.nodup_cons.mp hn
        by_cases ha : a = n
        · subst ha
          have : (l.filter fun x => decide (x ≠ a)) = l := List.filter_eq_self.mpr fun x hx => decide_eq_true fun e => hn'.1 (by rw [← e]; exact hx)
          rw [List.filter_cons_of_neg (by simp), this]; simp
        · rw [List.filter_cons_of_pos (by simpa using ha)]
          have := ih hn'.2
          simp only [List.length_cons]; omega
    omega
def code (q : Plc) : Nat := q.2.foldr (fun x c => x.toNat + 128 * c) q.1.toNat
theorem code_lt : ∀ (l : List Int) (a : Nat), a < 6 → (∀ x ∈ l, 0 ≤ x ∧ x < 128) → l.foldr (fun x c => x.toNat + 128 * c) a < 6 * 128 ^ l.length
  | [], a, h, _ => by simpa using h
  | x :: l, a, h, g => by
    have ih := code_lt l a h fun y hy => g y (List.mem_cons_of_mem _ hy)
    have hx := g x List.mem_cons_self
    rw [List.foldr_cons, List.length_cons, Nat.pow_succ]
    omega
theorem code_inj : ∀ (l m : List Int) (a b : Nat), l.length = m.length → (∀ x ∈ l, 0 ≤ x ∧ x < 128) → (∀ x ∈ m, 0 ≤ x ∧ x < 128) → l.foldr (fun x c => x.toNat + 128 * c) a = m.foldr (fun x c => x.toNat + 128 * c) b → l = m ∧ a = b
  | [], [], a, b, _, _, _, h => ⟨rfl, h⟩
  | [], _ :: _, _, _, h, _, _, _ => by simp at h
  | _ :: _, [], _, _, h, _, _, _ => by simp at h
  | x :: l, y :: m, a, b, hl, g1, g2, h => by
    rw [List.foldr_cons, List.foldr_cons] at h
    have hx := g1 x List.mem_cons_self
    have hy := g2 y List.mem_cons_self
    have e1 : x = y := by omega
    obtain ⟨h1, h2⟩ := code_inj l m a b (by simpa using hl) (fun z hz => g1 z (List.mem_cons_of_mem _ hz)) (fun z hz => g2 z (List.mem_cons_of_mem _ hz)) (by omega)
    exact ⟨by rw [e1, h1], h2⟩
theorem BG_len {f : Frm} (hf : f.Ok) {p : Plc} {gd : Nat → Plc → Bool} (hp : Gp f p) (hm : ∀ x ∈ p.2, x ≤ 10) {t : Nat} (ht : t ≤ 13) : (BG f p gd t).length < sizeLine := by
  have facts : ∀ q ∈ keys (BG f p gd t), Gp f q ∧ ∀ x ∈ q.2, 0 ≤ x ∧ x < 128 := fun q hq => by
    obtain ⟨x, hx, rfl⟩ := List.mem_map.mp hq
    obtain ⟨s, hs, h⟩ := BG_mem (w := x.2) (q := x.1) hx
    have r := runsG_ok hf hp hm s _ h
    refine ⟨r.gp, fun y hy => ⟨r.gp.nn y hy, ?_⟩⟩
    have := r.le y hy
    have : (s : Int) ≤ 13 := by omega
    omega
  have hC : ∀ q ∈ keys (BG f p gd t), q.2.length = f.C.toNat := fun q hq => by have := (facts q hq).1.len; omega
  have nd : ((keys (BG f p gd t)).map code).Nodup := by
    have h := BG_nodup (f := f) (p := p) (gd := gd) t
    have : ∀ l : List Plc, l.Nodup → (∀ q ∈ l, Gp f q ∧ ∀ x ∈ q.2, 0 ≤ x ∧ x < 128) → (l.map code).Nodup := fun l => by
      induction l with
      | nil => intro _ _; exact List.nodup_nil
      | cons q l ih =>
        intro hn hf'
        have hn' := List.nodup_cons.mp hn
        rw [List.map_cons, List.nodup_cons]
        refine ⟨fun hm => ?_, ih hn'.2 fun z hz => hf' z (List.mem_cons_of_mem _ hz)⟩
        obtain ⟨r, hr, e⟩ := List.mem_map.mp hm
        obtain ⟨g1, b1⟩ := hf' q List.mem_cons_self
        obtain ⟨g2, b2⟩ := hf' r (List.mem_cons_of_mem _ hr)
        obtain ⟨e1, e2⟩ := code_inj r.2 q.2 r.1.toNat q.1.toNat (by have := g1.len; have := g2.len; omega) b2 b1 e
        have : r = q := by
          obtain ⟨a, b⟩ := r
          obtain ⟨c, d⟩ := q
          simp only at e1 e2 g1 g2 ⊢
          have h1 := g1.p0; have h2 := g2.p0
          simp only at h1 h2
          rw [e1]
          congr 1
          omega
        exact hn'.1 (by rw [← this]; exact hr)
    exact this _ h facts
  have lt : ∀ x ∈ (keys (BG f p gd t)).map code, x < 6 * 128 ^ f.C.toNat := fun x hx => by
    obtain ⟨q, hq, rfl⟩ := List.mem_map.mp hx
    rw [← hC q hq]
    have g := (facts q hq).1
    have := g.p0; have := g.p1; have := hf.S6
    exact code_lt q.2 q.1.toNat (by omega) (facts q hq).2
  have := nodup_lt _ _ nd lt
  rw [List.length_map] at this
  have hl : (keys (BG f p gd t)).length = (BG f p gd t).length := List.length_map ..
  have hC3 : f.C.toNat ≤ 3 := by have := hf.C3; omega
  have hp : 6 * 128 ^ f.C.toNat ≤ 6 * 128 ^ 3 := Nat.mul_le_mul_left _ (Nat.pow_le_pow_right (by decide) hC3)
  rw [sizeLine_eq]
  have : 6 * 128 ^ 3 < 16777216 := by decide
  omega
end Lw

set_option maxHeartbeats 1000000
/-! k50: the near ones lose nothing. -/
namespace Lw
open Dl PySem
section
variable {f : Frm} {p : Plc} {gd : Nat → Plc → Bool}
theorem lvOk (hf : f.Ok) (hp : Gp f p) (hm : ∀ x ∈ p.2, x ≤ 10) (mono : ∀ t q, gd (t + 1) q = true → gd t q = true) (g0 : gd 0 p = true) {t : Nat} (ht : t ≤ 12) : LvOk f (stG f p gd t) := by
  obtain ⟨h1, h2, _⟩ := stG_eq (f := f) mono g0 t
  refine ⟨fun q hq => ?_, ?_⟩
  · rw [h2] at hq
    obtain ⟨x, hx, rfl⟩ := List.mem_map.mp hq
    have hN : (x.1, x.2) ∈ BG f p gd t := by rw [BG_split]; exact List.mem_append_right _ (List.mem_filter.mp hx).1
    refine ⟨x.2, by rw [h1]; exact look_of (BG_nodup t) hN, ?_⟩
    obtain ⟨s, hs, hr⟩ := BG_mem hN
    have := (runsG_ok hf hp hm s _ hr).len
    simp only at this
    rw [sizeLine_eq]; omega
  · have e := (stG_eq (f := f) mono g0 (t + 1)).1
    have : (nextL f (stG f p gd t).1 (stG f p gd t).2).1 = BG f p gd (t + 1) := e
    rw [this]
    exact BG_len hf hp hm (by omega)
theorem bfs_eq (t : Nat) : bfs f p t = stG f p (fun _ _ => true) t := by
  induction t with
  | zero => rfl
  | succ t ih =>
    show nextL f (bfs f p t).1 (bfs f p t).2 = _
    rw [ih]
    show _ = ((nextL f _ _).1, (nextL f _ _).2.filter fun _ => true)
    rw [List.filter_eq_self.mpr fun _ _ => rfl]
theorem bfs_fst (t : Nat) : (bfs f p t).1 = BG f p (fun _ _ => true) t := by
  rw [bfs_eq]
  exact (stG_eq (fun _ _ _ => rfl) rfl t).1
theorem bfs_ok (hf : f.Ok) (hp : Gp f p) (hm : ∀ x ∈ p.2, x ≤ 10) {t : Nat} (ht : t ≤ 12) : LvOk f (bfs f p t) := by
  rw [bfs_eq]; exact lvOk hf hp hm (fun _ _ _ => rfl) rfl ht
end
/-! ### near -/
def gN (goal : Plc) (t : Nat) (q : Plc) : Bool := if t = 0 then true else nearB q goal (12 - (t : Int))
theorem nearB_mono {q goal : Plc} {a b : Int} (h : a ≤ b) (g : nearB q goal a = true) : nearB q goal b = true := by
  unfold nearB at g ⊢
  rw [List.all_eq_true] at g ⊢
  intro x hx
  have := of_decide_eq_true (g x hx)
  exact decide_eq_true (by omega)
theorem gN_mono (goal : Plc) (t : Nat) (q : Plc) (h : gN goal (t + 1) q = true) : gN goal t q = true := by
  unfold gN at h ⊢
  rw [if_neg (by omega)] at h
  split
  · rfl
  · exact nearB_mono (by omega) h
theorem near_step : ∀ (row es g : List Int) (left : Int), (∀ x ∈ es, -9 ≤ x ∧ x ≤ 9) → row.length = es.length → ((addL row es).zip g).all (fun x => decide ((if x.1 - x.2 < 0 then -(x.1 - x.2) else x.1 - x.2) ≤ 9 * left)) = true →
    (row.zip g).all (fun x => decide ((if x.1 - x.2 < 0 then -(x.1 - x.2) else x.1 - x.2) ≤ 9 * (left + 1))) = true
  | [], _, _, _, _, _, _ => by simp
  | _ :: _, [], _, _, _, h, _ => by simp at h
  | _ :: _, _ :: _, [], _, _, _, _ => by simp
  | a :: row, c :: es, b :: g, left, h9, hl, h => by
    have e : addL (a :: row) (c :: es) = (a + c) :: addL row es := rfl
    rw [e, List.zip_cons_cons, List.all_cons, Bool.and_eq_true] at h
    rw [List.zip_cons_cons, List.all_cons, Bool.and_eq_true]
    refine ⟨?_, near_step row es g left (fun x hx => h9 x (List.mem_cons_of_mem _ hx)) (by simpa using hl) h.2⟩
    have h1 := of_decide_eq_true h.1
    have h2 := h9 c List.mem_cons_self
    simp only at h1 ⊢
    refine decide_eq_true ?_
    split at h1 <;> split <;> omega
theorem near_back {f : Frm} (hf : f.Ok) {q goal : Plc} {i : Nat} {s : Stp} (hs : f.ss[i]? = some s) (hq : Gp f q) {left : Int} (h : nearB (go q s) goal left = true) : nearB q goal (left + 1) = true := by
  have so := hf.st s (List.mem_of_getElem? hs)
  exact near_step q.2 s.es goal.2 left so.e9 (by have := hq.len; have := so.el; omega) h
theorem near_self (goal : Plc) {left : Int} (h : 0 ≤ left) : nearB goal goal left = true := by
  unfold nearB
  rw [List.all_eq_true]
  intro x hx
  have : x.1 = x.2 := by
    have : ∀ l : List Int, ∀ x ∈ l.zip l, x.1 = x.2 := fun l => by
      induction l with
      | nil => intro x hx; simp at hx
      | cons a l ih =>
        intro x hx
        rw [List.zip_cons_cons] at hx
        rcases List.mem_cons.mp hx with rfl | hx
        · rfl
        · exact ih x hx
    exact this _ x hx
  exact decide_eq_true (by rw [this]; simp; omega)
theorem flatMap_filter {α β : Type} (k : α → Bool) (h : β → Bool) (g : α → List β) : ∀ (l : List α), (∀ a ∈ l, k a = false → ∀ b ∈ g a, h b = false) → (l.flatMap g).filter h = ((l.filter k).flatMap g).filter h
  | [], _ => rfl
  | a :: l, hh => by
    rw [List.flatMap_cons, List.filter_append, flatMap_filter k h g l fun b hb => hh b (List.mem_cons_of_mem _ hb)]
    cases hk : k a with
    | true => rw [List.filter_cons_of_pos hk, List.flatMap_cons, List.filter_append]
    | false =>
      rw [List.filter_cons_of_neg (by simp [hk])]
      have : (g a).filter h = [] := List.filter_eq_nil_iff.mpr fun b hb => by rw [hh a List.mem_cons_self hk b hb]; exact Bool.false_ne_true
      rw [this, List.nil_append]
theorem near_runs {f : Frm} (hf : f.Ok) {p goal : Plc} {m : Int} (hp : Gp f p) (hm : ∀ x ∈ p.2, x ≤ m) : ∀ t, t ≤ 12 →
    (runsG f p (gN goal) t).filter (fun e => nearB e.2 goal (12 - (t : Int))) = (runsG f p (fun _ _ => true) t).filter (fun e => nearB e.2 goal (12 - (t : Int)))
  | 0, _ => rfl
  | t + 1, ht => by
    have ih := near_runs hf (goal := goal) hp hm t (by omega)
    have kill : ∀ gd, ∀ e ∈ runsG f p gd t, nearB e.2 goal (12 - (t : Int)) = false → ∀ b ∈ exts f e, nearB b.2 goal (12 - ((t + 1 : Nat) : Int)) = false := fun gd e he hk b hb => by
      obtain ⟨i, s, hs, hl, rfl⟩ := exts_of hb
      have hq := (runsG_ok hf hp hm t e he).gp
      cases hn : nearB (go e.2 s) goal (12 - ((t + 1 : Nat) : Int)) with
      | false => rfl
      | true =>
        have := near_back hf hs hq hn
        have e1 : 12 - ((t + 1 : Nat) : Int) + 1 = 12 - (t : Int) := by omega
        rw [e1, hk] at this
        cases this
    show (((runsG f p (gN goal) t).filter fun e => gN goal t e.2).flatMap (exts f)).filter _ = (((runsG f p (fun _ _ => true) t).filter fun _ => true).flatMap (exts f)).filter _
    rw [flatMap_filter (fun e : Ent => nearB e.2 goal (12 - (t : Int))) _ _ _ (fun e he => kill _ e (List.mem_filter.mp he).1), flatMap_filter (fun e : Ent => nearB e.2 goal (12 - (t : Int))) _ _ ((runsG f p (fun _ _ => true) t).filter fun _ => true) (fun e he => kill _ e (List.mem_filter.mp he).1)]
    congr 2
    have e2 : (runsG f p (fun _ _ => true) t).filter (fun _ => true) = runsG f p (fun _ _ => true) t := List.filter_eq_self.mpr fun _ _ => rfl
    rw [e2, ← ih, List.filter_filter]
    refine List.filter_congr fun e he => ?_
    cases t with
    | zero => simp [gN]
    | succ t =>
      unfold gN
      rw [if_neg (by omega), Bool.and_self]
theorem goal_runs {f : Frm} (hf : f.Ok) {p goal : Plc} {m : Int} (hp : Gp f p) (hm : ∀ x ∈ p.2, x ≤ m) {t : Nat} (ht : t ≤ 12) :
    (runsG f p (gN goal) t).filter (fun e => decide (e.2 = goal)) = (runsG f p (fun _ _ => true) t).filter (fun e => decide (e.2 = goal)) := by
  have h := congrArg (List.filter fun e : Ent => decide (e.2 = goal)) (near_runs hf (goal := goal) hp hm t ht)
  rw [List.filter_filter, List.filter_filter] at h
  have e : (fun e : Ent => decide (e.2 = goal) && nearB e.2 goal (12 - (t : Int))) = fun e : Ent => decide (e.2 = goal) := by
    funext e
    by_cases he : e.2 = goal
    · rw [he, near_self goal (by omega)]; simp
    · simp [he]
  rw [e] at h
  exact h
theorem look_insL (g : Plc) : ∀ (R : List Ent) (F : Fst), look (insL F R) g = (look F g).or (((R.filter fun e => decide (e.2 = g)).head?).map (·.1))
  | [], F => by simp [insL]
  | e :: R, F => by
    show look (insL (ins F e) R) g = _
    rw [look_insL g R]
    by_cases he : e.2 = g
    · subst he
      rw [List.filter_cons_of_pos (by simp)]
      unfold ins
      cases hl : look F e.2 with
      | some w => simp [hl]
      | none =>
        simp only [Option.isSome_none, Bool.false_eq_true, if_false]
        have : look (F ++ [(e.2, e.1)]) e.2 = some e.1 := by
          have hn := hl
          unfold look at hn ⊢
          rw [List.find?_append]
          rw [Option.map_eq_none_iff] at hn
          rw [hn]; simp
        rw [this]; simp
    · rw [List.filter_cons_of_neg (by simp [he])]
      congr 1
      unfold ins
      split
      · rfl
      · unfold look
        rw [List.find?_append]
        cases hf : F.find? fun x => decide (x.1 = g) with
        | some x => rfl
        | none => simp [he]
theorem goal_look {f : Frm} (hf : f.Ok) {p goal : Plc} {m : Int} (hp : Gp f p) (hm : ∀ x ∈ p.2, x ≤ m) : ∀ t, t ≤ 12 → look (BG f p (gN goal) t) goal = look (BG f p (fun _ _ => true) t) goal
  | 0, _ => rfl
  | t + 1, ht => by
    show look (insL _ _) goal = look (insL _ _) goal
    rw [look_insL, look_insL, goal_look hf hp hm t (by omega), goal_runs hf hp hm ht]
theorem lefts_succ (m : Nat) : lefts (m + 1) = (m : Int) :: lefts m := by
  unfold lefts
  rw [List.range_succ_eq_map, List.map_cons, List.map_map]
  congr 1
  · simp
  · refine List.map_congr_left fun k _ => ?_
    simp only [Function.comp]
    omega
theorem ft_eq {f : Frm} (hf : f.Ok) {p goal : Plc} (hp : Gp f p) (hm : ∀ x ∈ p.2, x ≤ 10) : ∀ m t, m + t = 12 → FtOk f goal (lefts m) (stG f p (gN goal) t) ∧ ft f goal (lefts m) (stG f p (gN goal) t) = look (BG f p (gN goal) 12) goal
  | 0, t, h => by
    have : t = 12 := by omega
    subst this
    refine ⟨by simp [lefts, FtOk], ?_⟩
    have e := (stG_eq (f := f) (p := p) (gN_mono goal) rfl 12).1
    show look (stG f p (gN goal) 12).1 goal = _
    rw [e]
  | m + 1, t, h => by
    have e := (stG_eq (f := f) (p := p) (gN_mono goal) rfl t).1
    have nx : ((nextL f (stG f p (gN goal) t).1 (stG f p (gN goal) t).2).1, (nextL f (stG f p (gN goal) t).1 (stG f p (gN goal) t).2).2.filter fun q => nearB q goal (m : Int)) = stG f p (gN goal) (t + 1) := by
      show _ = ((nextL f _ _).1, (nextL f _ _).2.filter (gN goal (t + 1)))
      congr 2
      funext q
      unfold gN
      rw [if_neg (by omega)]
      have : 12 - ((t + 1 : Nat) : Int) = (m : Int) := by omega
      rw [this]
    obtain ⟨i1, i2⟩ := ft_eq hf (goal := goal) hp hm m (t + 1) (by omega)
    rw [lefts_succ]
    refine ⟨fun _ => ⟨lvOk hf hp hm (gN_mono goal) rfl (by omega), by rw [nx]; exact i1⟩, ?_⟩
    show (match look (stG f p (gN goal) t).1 goal with
      | some w => some w
      | none => ft f goal (lefts m) _) = _
    rw [nx]
    cases hl : look (stG f p (gN goal) t).1 goal with
    | some w =>
      simp only
      rw [e] at hl
      obtain ⟨mm, g⟩ := BG_grow (f := f) (p := p) (gd := gN goal) (show t ≤ 12 by omega)
      rw [g]
      exact (look_app hl).symm
    | none => exact i2
/-- the first run -/
theorem first_eq {f : Frm} (hf : f.Ok) {p goal : Plc} (hp : Gp f p) (hm : ∀ x ∈ p.2, x ≤ 10) : FtOk f goal (lefts 12) ([(p, [])], [p]) ∧ ft f goal (lefts 12) ([(p, [])], [p]) = look (BG f p (fun _ _ => true) 12) goal := by
  obtain ⟨h1, h2⟩ := ft_eq hf (goal := goal) hp hm 12 0 rfl
  exact ⟨h1, h2.trans (goal_look hf hp hm 12 (Nat.le_refl _))⟩
end Lw

set_option maxHeartbeats 1000000
/-! k50: the draws. -/
namespace Lw
open PySem PySem.Spec PyProof.Rows L2 Dl
def Pot (M : Mem) (n : Nat) : Prop := ∃ a b : Int, M[n]? = some (some (.lst [.int a, .int b])) ∧ 0 ≤ a ∧ 0 ≤ b ∧ b < 2147483648
theorem Kept.set {M : Mem} {n : Nat} {o : Option MO} : Kept [n] M (M.set n o) := ⟨by simp, fun m hm hn => by
  rw [List.getElem?_set_ne fun e => hn (by simp [e])]⟩
theorem cmul_of {i j : Int} (h0 : 0 ≤ i) (h : i < 18446744073709551616) : cMul i j = true := by
  unfold cMul
  simp
  left
  omega
theorem fmod_nn {a b : Int} (hb : 0 < b) : 0 ≤ a.fmod b ∧ a.fmod b < b := by
  rw [Int.fmod_eq_emod_of_nonneg a (Int.le_of_lt hb)]
  exact ⟨Int.emod_nonneg _ (by omega), Int.emod_lt_of_pos _ hb⟩
theorem draw_ok {n : Nat} {M : Mem} {many : Int} (h : Pot M n) (hm : 0 < many) (hm2 : many < 1073741824) :
    ∃ d M', F__law_draw [.adr n, .int many] M = .ok (.int d) M' ∧ 0 ≤ d ∧ d < many ∧ Pot M' n ∧ Kept [n] M M' := by
  obtain ⟨a, b, h, ha, hb, hb2⟩ := h
  have hn := lt_of_some h
  by_cases h0 : 0 < a
  · refine ⟨a % many, M.set n (some (.lst [.int (a / many), .int b])), ?_, Int.emod_nonneg _ (by omega), Int.emod_lt_of_pos _ hm, ⟨a / many, b, by rw [List.getElem?_set_self hn], Int.ediv_nonneg ha (by omega), hb, hb2⟩, Kept.set⟩
    simp [F__law_draw, B__law_draw, h, h0, hm, hm2]
  · have e0 : a = 0 := by omega
    subst e0
    have c1 : cMul b 39373 = true := cmul_of hb (by omega)
    obtain ⟨q1, q2⟩ := fmod_nn (a := b * 39373 + 17) (b := 2147483647) (by decide)
    generalize hc : (b * 39373 + 17).fmod 2147483647 = c at q1 q2
    have c2 : cMul c c = true := cmul_of q1 (by omega)
    have c3 : cDiv ((c * c).fmod 2147483563) 23 = true := by simp [cDiv]
    have hm0 : ¬ many = 0 := by omega
    obtain ⟨r1, r2⟩ := fmod_nn (a := ((c * c).fmod 2147483563).fdiv 23) (b := many) hm
    refine ⟨(((c * c).fmod 2147483563).fdiv 23).fmod many, M.set n (some (.lst [.int 0, .int c])), ?_, r1, r2, ⟨0, c, by rw [List.getElem?_set_self hn], Int.le_refl _, q1, by omega⟩, Kept.set⟩
    have h2 : (M.set n (some (.lst [.int 0, .int c])))[n]? = some (some (.lst [.int 0, .int c])) := List.getElem?_set_self hn
    simp [F__law_draw, B__law_draw, h, c1, hc, h2, c2, c3, hm0]
theorem pick_ok {n : Nat} {M : Mem} {l : List Int} (h : Pot M n) (hl : l ≠ []) (hl2 : l.length < 1000) :
    ∃ d M', F__law_pick [.adr n, .lst (l.map .int)] M = .ok (.int d) M' ∧ d ∈ l ∧ Pot M' n ∧ Kept [n] M M' := by
  have h0 : 0 < l.length := List.length_pos_iff.mpr hl
  obtain ⟨d, M', h1, h2, h3, h4, h5⟩ := draw_ok (many := (l.length : Int)) h (by omega) (by omega)
  have hd : d.toNat < l.length := by omega
  refine ⟨l[d.toNat], M', ?_, List.getElem_mem hd, h4, h5⟩
  have e : L2.atI (l.map D.int) d = some (.int l[d.toNat]) := by
    have e1 : ((d.toNat : Nat) : Int) = d := by omega
    have e2 := atN (l.map D.int) d.toNat
    rw [e1] at e2
    rw [e2]
    simp [hd]
  simp [F__law_pick, B__law_pick, h1, e]
/-- a comprehension of draws -/
theorem draws_inv {n : Nat} {M0 : Mem} {f : Fe} {env0 : Dl.Env} {p : Pat} {α : Type} {g : α → D} (P : Int → Prop) (l : List α)
    (hf : ∀ a ∈ l, ∀ M, Pot M n → Kept [n] M0 M → ∃ e1 d M', putD p (g a) env0 = some e1 ∧ f e1 M = .ok (.int d) M' ∧ P d ∧ Pot M' n ∧ Kept [n] M M') (M00 : Mem) (h : Pot M0 n) :
    ∃ (vs : List Int) (M' : Mem), compF M00 [] p tYesF f env0 (l.map g) M0 = .ok (vs.map D.int) M' ∧ vs.length = l.length ∧ (∀ v ∈ vs, P v) ∧ Pot M' n ∧ Kept [n] M0 M' := by
  obtain ⟨vs, M', h1, ds, h2, h3, h4, h5, h6⟩ := comp_inv (M0 := M00) (pin := []) (p := p) (f := f) (env0 := env0) g (fun i acc M => ∃ ds : List Int, acc = ds.map D.int ∧ ds.length = i ∧ (∀ v ∈ ds, P v) ∧ Pot M n ∧ Kept [n] M0 M) (fun _ _ _ _ => rfl) l 0 [] M0 (fun j a acc M e q => by
    obtain ⟨ds, rfl, q1, q2, q3, q4⟩ := q
    obtain ⟨e1, d, M2, r1, r2, r3, r4, r5⟩ := hf a (List.mem_of_getElem? e) M q3 q4
    refine ⟨e1, _, M2, r1, r2, ds ++ [d], by simp, by simp; omega, fun v hv => ?_, r4, q4.trans r5⟩
    rcases List.mem_append.mp hv with hv | hv
    · exact q2 v hv
    · rw [List.mem_singleton.mp hv]; exact r3) ⟨[], rfl, rfl, (fun _ h => nomatch h), h, Kept.refl _ _⟩
  rw [List.nil_append] at h2
  subst h2
  exact ⟨ds, M', h1, by omega, h4, h5, h6⟩
theorem row_draw {n : Nat} {M : Mem} {k : Nat} {most : Int} (h : Pot M n) (hk : k ≤ 1000) (h0 : 0 ≤ most) (h1 : most < 1000) :
    ∃ (l : List Int) (M' : Mem), F__law_row [.adr n, .int (k : Nat), .int most] M = .ok (.tup (l.map D.int)) M' ∧ l.length = k ∧ (∀ v ∈ l, 0 ≤ v ∧ v ≤ most) ∧ Pot M' n ∧ Kept [n] M M' := by
  have hs : k ≤ sizeLine := by rw [sizeLine_eq]; omega
  obtain ⟨vs, M', h2, h3, h4, h5, h6⟩ := draws_inv (n := n) (M0 := M) (f := eF 2 0 [0, 1] F__law_draw (aC (eV 0) (aC (e2 kAdd (eV 2) (eC (.int 1))) aN)) aN) (env0 := [some (.adr n), some (.int (k : Nat)), some (.int most), none]) (p := .nm 3) (g := fun (i : Nat) => D.int (i : Nat)) (fun v => 0 ≤ v ∧ v ≤ most) (List.range k) (fun a ha M1 hp hk' => by
    obtain ⟨d, M2, r1, r2, r3, r4, r5⟩ := draw_ok (many := most + 1) hp (by omega) (by omega)
    exact ⟨_, d, M2, rfl, by simp [r1], ⟨r2, by omega⟩, r4, r5⟩) M h
  rw [List.length_range] at h3
  refine ⟨vs, M', ?_, h3, h4, h5, h6⟩
  simp [F__law_row, B__law_row, kRng1_nat hs, h2]
end Lw

set_option maxHeartbeats 1000000
/-! k50: the tame farms. -/
namespace Lw
open PySem PySem.Spec PyProof.Rows L2 Dl
theorem mem_zip_get {α β : Type} {l : List α} {m : List β} {x : α × β} (h : x ∈ l.zip m) : ∃ j : Nat, l[j]? = some x.1 ∧ m[j]? = some x.2 := by
  obtain ⟨j, hj⟩ := List.mem_iff_getElem?.mp h
  exact ⟨j, List.getElem?_zip_eq_some.mp hj⟩
theorem wants_draw {n : Nat} {M0 M00 : Mem} {es : List Int} {env0 : Dl.Env} (henv : env0[0]? = some (some (.adr n))) (hlen : env0.length = 11) (he : ∀ x ∈ es, -3 ≤ x ∧ x ≤ 2) (h : Pot M0 n) :
    ∃ (ws : List Int) (M' : Mem), compF M00 [] (.nm 10) tYesF (e2 kAdd (eB kMax2 (aC (eC (.int 0)) (aC (e2 kSub (eC (.int 0)) (eV 10)) aN))) (eF 2 0 [0, 1] F__law_pick (aC (eV 0) (aC (fV (aC (eC (.int 0)) (aC (eC (.int 0)) (aC (eC (.int 0)) (aC (eC (.int 1)) aN))))) aN)) aN)) env0 (es.map D.int) M0 = .ok (ws.map D.int) M' ∧
      ws.length = es.length ∧ (∀ x ∈ ws, 0 ≤ x ∧ x ≤ 4) ∧ (∀ x ∈ ws.zip es, 0 ≤ x.1 + x.2) ∧ Pot M' n ∧ Kept [n] M0 M' := by
  obtain ⟨vs, M', h1, ws, h2, h3, h4, h5, h6, h7⟩ := comp_inv (M0 := M00) (pin := []) (p := .nm 10) (f := (e2 kAdd (eB kMax2 (aC (eC (.int 0)) (aC (e2 kSub (eC (.int 0)) (eV 10)) aN))) (eF 2 0 [0, 1] F__law_pick (aC (eV 0) (aC (fV (aC (eC (.int 0)) (aC (eC (.int 0)) (aC (eC (.int 0)) (aC (eC (.int 1)) aN))))) aN)) aN))) (env0 := env0) D.int
    (fun i acc M => ∃ ws : List Int, acc = ws.map D.int ∧ ws.length = i ∧ (∀ x ∈ ws, 0 ≤ x ∧ x ≤ 4) ∧ (∀ (j : Nat) (w e : Int), ws[j]? = some w → es[j]? = some e → 0 ≤ w + e) ∧ Pot M n ∧ Kept [n] M0 M) (fun _ _ _ _ => rfl) es 0 [] M0 (fun j a acc M e q => by
      rw [Nat.zero_add] at q ⊢
      obtain ⟨ws, rfl, q1, q2, q3, q4, q5⟩ := q
      obtain ⟨c, M2, r1, r2, r3, r4⟩ := pick_ok (l := [0, 0, 0, 1]) q4 (by simp) (by simp)
      have ha := he a (List.mem_of_getElem? e)
      have hc : c = 0 ∨ c = 1 := by simpa using r2
      have h0 : (env0.set 10 (some (D.int a)))[0]? = some (some (.adr n)) := by rw [List.getElem?_set_ne (by decide)]; exact henv
      have h10 : (env0.set 10 (some (D.int a)))[10]? = some (some (.int a)) := by rw [List.getElem?_set_self (by omega)]
      refine ⟨env0.set 10 (some (.int a)), .int ((if 0 - a > 0 then 0 - a else 0) + c), M2, rfl, ?_, ws ++ [(if 0 - a > 0 then 0 - a else 0) + c], by simp, by simp [q1], fun x hx => ?_, fun i w e' hw he' => ?_, r3, q5.trans r4⟩
      · simp only [List.map_cons, List.map_nil] at r1
        simp [h0, h10, r1]
      · rcases List.mem_append.mp hx with hx | hx
        · exact q2 x hx
        · rw [List.mem_singleton.mp hx]
          split <;> omega
      · by_cases hi : i < ws.length
        · rw [List.getElem?_append_left hi] at hw
          exact q3 i w e' hw he'
        · rw [List.getElem?_append_right (by omega)] at hw
          have h1 := lt_of_some hw
          have : i = j := by simp at h1; omega
          subst this
          rw [q1, Nat.sub_self] at hw
          cases hw
          rw [e] at he'
          cases he'
          split <;> omega) ⟨[], rfl, rfl, (fun _ h => nomatch h), (fun _ _ _ h => by simp at h), h, Kept.refl _ _⟩
  rw [List.nil_append] at h2
  subst h2
  exact ⟨ws, M', h1, by omega, h4, fun x hx => by obtain ⟨j, a, b⟩ := mem_zip_get hx; exact h5 j _ _ a b, h6, h7⟩
def tameB : Fs := (fSq (fSet 7 (eB kTupOf (aC (fV (fLc [9] (fRng1 (aC (eV 2) aN)) (.nm 9) tYesF (eF 2 0 [0, 1] F__law_pick (aC (eV 0) (aC (eIf (tBl (e2 kGt (eV 4) (eC (.int 0)))) (fV (aC (e1 kNeg (eC (.int 2))) (aC (e1 kNeg (eC (.int 1))) (aC (e1 kNeg (eC (.int 1))) (aC (eC (.int 0)) (aC (eC (.int 1)) aN)))))) (fV (aC (e1 kNeg (eC (.int 3))) (aC (e1 kNeg (eC (.int 2))) (aC (e1 kNeg (eC (.int 1))) (aC (eC (.int 1)) (aC (eC (.int 2)) aN))))))) aN)) aN))) aN))) (fSq (fSet 8 (eB kTupOf (aC (fV (fLc [10] (fItA (eV 7)) (.nm 10) tYesF (e2 kAdd (eB kMax2 (aC (eC (.int 0)) (aC (e2 kSub (eC (.int 0)) (eV 10)) aN))) (eF 2 0 [0, 1] F__law_pick (aC (eV 0) (aC (fV (aC (eC (.int 0)) (aC (eC (.int 0)) (aC (eC (.int 0)) (aC (eC (.int 1)) aN))))) aN)) aN)))) aN))) (fDrop (eM kAppend (eV 3) (aC (eTup (aC (eC (.str "step")) (aC (eF 2 0 [0, 1] F__law_draw (aC (eV 0) (aC (eV 1) aN)) aN) (aC (eF 2 0 [0, 1] F__law_draw (aC (eV 0) (aC (eV 1) aN)) aN) (aC (eV 8) (aC (eV 7) (aC (eC (.int 0)) aN))))))) aN)))))
theorem tame_turn {n k : Nat} {S C kind : Int} {M : Mem} {ss : List Stp} {z x7 x8 : Option D} {at_ : D} (h : Pot M n) (hk : M[k]? = some (some (.lst (ss.map Stp.d)))) (hnk : n ≠ k) (hS : 1 ≤ S ∧ S ≤ 3) (hC : 1 ≤ C ∧ C ≤ 3) (hl : ss.length < 100) :
    ∃ (s : Stp) (y7 y8 : Option D) (M' : Mem), tameB [some (.adr n), some (.int S), some (.int C), some (.adr k), some (.int kind), some at_, none, x7, x8, none, none] M = .ok (.nx [some (.adr n), some (.int S), some (.int C), some (.adr k), some (.int kind), some at_, none, y7, y8, none, none]) M' ∧
      (∀ ss', s.Ok ⟨S, C, ss'⟩) ∧ Pot M' n ∧ M'[k]? = some (some (.lst ((ss ++ [s]).map Stp.d))) ∧ Kept [n, k] M M' := by
  have hCn : C = ((C.toNat : Nat) : Int) := by omega
  have hs : C.toNat ≤ sizeLine := by rw [sizeLine_eq]; omega
  obtain ⟨es, M1, h1, h2, h3, h4, h5⟩ := draws_inv (n := n) (M0 := M) (f := eF 2 0 [0, 1] F__law_pick (aC (eV 0) (aC (eIf (tBl (e2 kGt (eV 4) (eC (.int 0)))) (fV (aC (e1 kNeg (eC (.int 2))) (aC (e1 kNeg (eC (.int 1))) (aC (e1 kNeg (eC (.int 1))) (aC (eC (.int 0)) (aC (eC (.int 1)) aN)))))) (fV (aC (e1 kNeg (eC (.int 3))) (aC (e1 kNeg (eC (.int 2))) (aC (e1 kNeg (eC (.int 1))) (aC (eC (.int 1)) (aC (eC (.int 2)) aN))))))) aN)) aN)
    (env0 := [some (.adr n), some (.int S), some (.int C), some (.adr k), some (.int kind), some at_, none, x7, x8, none, none]) (p := .nm 9) (g := fun (i : Nat) => D.int (i : Nat)) (fun v => -3 ≤ v ∧ v ≤ 2) (List.range C.toNat) (fun a ha M1 hp hk' => by
      by_cases hkd : kind > 0
      · obtain ⟨d, M2, r1, r2, r3, r4⟩ := pick_ok (l := [-2, -1, -1, 0, 1]) hp (by simp) (by simp)
        simp only [List.map_cons, List.map_nil] at r1
        refine ⟨_, d, M2, rfl, by simp [hkd, r1], ?_, r3, r4⟩
        simp at r2
        omega
      · obtain ⟨d, M2, r1, r2, r3, r4⟩ := pick_ok (l := [-3, -2, -1, 1, 2]) hp (by simp) (by simp)
        simp only [List.map_cons, List.map_nil] at r1
        refine ⟨_, d, M2, rfl, by simp [hkd, r1], ?_, r3, r4⟩
        simp at r2
        omega) M h
  rw [List.length_range] at h2
  obtain ⟨ws, M2, g1, g2, g3, g4, g5, g6⟩ := wants_draw (M00 := M1) (es := es) (env0 := [some (.adr n), some (.int S), some (.int C), some (.adr k), some (.int kind), some at_, none, some (.tup (es.map .int)), x8, none, none]) rfl rfl h3 h4
  obtain ⟨d1, M3, q1, q2, q3, q4, q5⟩ := draw_ok (many := S) g5 (by omega) (by omega)
  obtain ⟨d2, M4, p1, p2, p3, p4, p5⟩ := draw_ok (many := S) q4 (by omega) (by omega)
  have hk4 : M4[k]? = some (some (.lst (ss.map Stp.d))) := (((h5.trans g6).trans q5).trans p5).at hk (by simp [Ne.symm hnk])
  have hlen := lt_of_some hk4
  obtain ⟨a4, b4, pp, _⟩ := id p4
  refine ⟨⟨d1, d2, ws, es⟩, some (.tup (es.map .int)), some (.tup (ws.map .int)), M4.set k (some (.lst ((ss ++ [(⟨d1, d2, ws, es⟩ : Stp)]).map Stp.d))), ?_, fun ss' => ⟨q2, q3, p2, p3, by show (ws.length : Int) = C; omega, by show (es.length : Int) = C; omega, fun x hx => by have := g3 x hx; omega, fun x hx => by have := h3 x hx; omega, g4⟩, ?_, by rw [List.getElem?_set_self hlen], ?_⟩
  · have f1 : fSet 7 (eB kTupOf (aC (fV (fLc [9] (fRng1 (aC (eV 2) aN)) (.nm 9) tYesF (eF 2 0 [0, 1] F__law_pick (aC (eV 0) (aC (eIf (tBl (e2 kGt (eV 4) (eC (.int 0)))) (fV (aC (e1 kNeg (eC (.int 2))) (aC (e1 kNeg (eC (.int 1))) (aC (e1 kNeg (eC (.int 1))) (aC (eC (.int 0)) (aC (eC (.int 1)) aN)))))) (fV (aC (e1 kNeg (eC (.int 3))) (aC (e1 kNeg (eC (.int 2))) (aC (e1 kNeg (eC (.int 1))) (aC (eC (.int 1)) (aC (eC (.int 2)) aN))))))) aN)) aN))) aN)) [some (.adr n), some (.int S), some (.int C), some (.adr k), some (.int kind), some at_, none, x7, x8, none, none] M = .ok (.nx [some (.adr n), some (.int S), some (.int C), some (.adr k), some (.int kind), some at_, none, some (.tup (es.map .int)), x8, none, none]) M1 := by
      have hr := kRng1_int (j := C) (M := M) (by omega) (by rw [sizeLine_eq]; omega)
      simp only [fSet, eB, aC, fV, fLc, fRng1, eV, List.getElem?_cons_zero, List.getElem?_cons_succ, bind_ok, aN, hr]
      simp only [wipeE, List.set_cons_succ, List.set_cons_zero]
      rw [h1]
      simp
    have f2 : fSet 8 (eB kTupOf (aC (fV (fLc [10] (fItA (eV 7)) (.nm 10) tYesF (e2 kAdd (eB kMax2 (aC (eC (.int 0)) (aC (e2 kSub (eC (.int 0)) (eV 10)) aN))) (eF 2 0 [0, 1] F__law_pick (aC (eV 0) (aC (fV (aC (eC (.int 0)) (aC (eC (.int 0)) (aC (eC (.int 0)) (aC (eC (.int 1)) aN))))) aN)) aN)))) aN)) [some (.adr n), some (.int S), some (.int C), some (.adr k), some (.int kind), some at_, none, some (.tup (es.map .int)), x8, none, none] M1 = .ok (.nx [some (.adr n), some (.int S), some (.int C), some (.adr k), some (.int kind), some at_, none, some (.tup (es.map .int)), some (.tup (ws.map .int)), none, none]) M2 := by
      simp only [fSet, eB, aC, fV, fLc, fItA, eV, List.getElem?_cons_zero, List.getElem?_cons_succ, bind_ok, aN, itA]
      simp only [wipeE, List.set_cons_succ, List.set_cons_zero]
      rw [g1]
      simp
    refine (fSq_nx f1).trans ((fSq_nx f2).trans ?_)
    have hl2 : ss.length < sizeLine := by rw [sizeLine_eq]; omega
    have hk2 : (asL M2 (.adr k)).isSome = true := by
      have : M2[k]? = some (some (.lst (ss.map Stp.d))) := (h5.trans g6).at hk (by simp [Ne.symm hnk])
      simp [this]
    simp [hk2, q1, p1, hk4, hl2, Stp.d]
    have : M2[k]? = some (some (.lst (ss.map Stp.d))) := (h5.trans g6).at hk (by simp [Ne.symm hnk])
    simp [this]
  · exact ⟨a4, b4, by rw [List.getElem?_set_ne (Ne.symm hnk)]; exact pp, by assumption⟩
  · refine ⟨by have := (((h5.trans g6).trans q5).trans p5).1; simpa using this, fun m hm hn => ?_⟩
    rw [List.getElem?_set_ne fun e => hn (by simp [e])]
    exact (((h5.trans g6).trans q5).trans p5).2 m hm fun e => hn (by simp at e; simp [e])
end Lw

set_option maxHeartbeats 1000000
/-! k50: the drawn farm and place; the pot. -/
namespace Lw
open PySem PySem.Spec PyProof.Rows L2 Dl
structure Drawn (f : Frm) (p : Plc) : Prop where
  ok : f.Ok
  gp : Gp f p
  le : ∀ x ∈ p.2, x ≤ 5
  n4 : f.ss.length ≤ 4
  n1 : 1 ≤ f.ss.length
theorem Kept.wid {n k : Nat} {M M' : Mem} (h : Kept [n] M M') : Kept [n, k] M M' := ⟨h.1, fun m hm hn => h.2 m hm fun e => hn (by simp at e; simp [e])⟩
theorem tame_ok {n : Nat} {M : Mem} (h : Pot M n) : ∃ f p M', F__law_tame [.adr n] M = .ok (.tup [f.d, pD p]) M' ∧ Drawn f p ∧ Pot M' n ∧ Kept [n] M M' := by
  obtain ⟨a1, M1, q1, q2, q3, q4, q5⟩ := draw_ok (many := 3) h (by decide) (by decide)
  obtain ⟨a2, M2, r1, r2, r3, r4, r5⟩ := draw_ok (many := 3) q4 (by decide) (by decide)
  let k := M2.length
  let M3 : Mem := M2 ++ [some (.lst [])]
  have hn2 : n < M2.length := by obtain ⟨_, _, e, _⟩ := r4; exact lt_of_some e
  have hnk : n ≠ k := Nat.ne_of_lt hn2
  have p3 : Pot M3 n := by obtain ⟨a, b, e, e2⟩ := r4; exact ⟨a, b, by show (M2 ++ _)[n]? = _; rw [List.getElem?_append_left hn2]; exact e, e2⟩
  obtain ⟨a3, M4, s1, s2, s3, s4, s5⟩ := draw_ok (many := 3) p3 (by decide) (by decide)
  obtain ⟨a4, M5, t1, t2, t3, t4, t5⟩ := draw_ok (many := 4) s4 (by decide) (by decide)
  have hk3 : M3[k]? = some (some (.lst [])) := by show (M2 ++ _)[M2.length]? = _; rw [List.getElem?_append_right (Nat.le_refl _)]; simp
  have hk5 : M5[k]? = some (some (.lst [])) := (s5.trans t5).at hk3 (by simp [Ne.symm hnk])
  let Iv : Nat → Dl.Env → Mem → Prop := fun i env M' => ∃ (ss : List Stp) (z x7 x8 : Option D), env = [some (.adr n), some (.int (1 + a1)), some (.int (1 + a2)), some (.adr k), some (.int a3), z, none, x7, x8, none, none] ∧ ss.length = i ∧ (∀ s ∈ ss, ∀ ss', s.Ok ⟨1 + a1, 1 + a2, ss'⟩) ∧ Pot M' n ∧ M'[k]? = some (some (.lst (ss.map Stp.d))) ∧ Kept [n, k] M5 M'
  obtain ⟨env', M6, u1, ss, z, x7, x8, rfl, u2, u3, u4, u5, u6⟩ := loop_inv (M0 := M5) (pin := []) (p := .nm 5) (b := tameB) (fun (i : Nat) => D.int (i : Nat)) Iv (fun _ _ _ _ => rfl) (List.range (1 + a4).toNat) 0 [some (.adr n), some (.int (1 + a1)), some (.int (1 + a2)), some (.adr k), some (.int a3), none, none, none, none, none, none] M5 (fun j i env M7 e q => by
    rw [Nat.zero_add] at q ⊢
    obtain ⟨ss, z, x7, x8, rfl, v1, v2, v3, v4, v5⟩ := q
    have hj : j < (1 + a4).toNat := by have := lt_of_some e; simpa using this
    obtain ⟨s, y7, y8, M8, w1, w2, w3, w4, w5⟩ := tame_turn (S := 1 + a1) (C := 1 + a2) (kind := a3) (z := z) (x7 := x7) (x8 := x8) (at_ := .int (i : Nat)) v3 v4 hnk (by omega) (by omega) (by omega)
    refine ⟨_, _, M8, rfl, w1, ss ++ [s], _, y7, y8, rfl, by simp [v1], fun s' hs' => ?_, w3, w4, v5.trans w5⟩
    rcases List.mem_append.mp hs' with hs' | hs'
    · exact v2 s' hs'
    · rw [List.mem_singleton.mp hs']; exact w2) ⟨[], none, none, none, rfl, rfl, (fun _ h => nomatch h), t4, hk5, Kept.refl _ _⟩
  rw [Nat.zero_add, List.length_range] at u2
  obtain ⟨a5, M7, x1, x2, x3, x4, x5⟩ := draw_ok (many := 1 + a1) u4 (by omega) (by omega)
  obtain ⟨a6, M8, y1, y2, y3, y4⟩ := pick_ok (l := [1, 3, 5]) x4 (by simp) (by simp)
  have h6 : a6 = 1 ∨ a6 = 3 ∨ a6 = 5 := by simpa using y2
  obtain ⟨row, M9, z1, z2, z3, z4, z5⟩ := row_draw (k := (1 + a2).toNat) (most := a6) y3 (by omega) (by omega) (by omega)
  have e2 : (((1 + a2).toNat : Nat) : Int) = 1 + a2 := by omega
  rw [e2] at z1
  let f : Frm := ⟨1 + a1, 1 + a2, ss⟩
  have ktot : Kept [n] M M9 := (((q5.trans r5).trans ((Kept.new M2 _ [n]).trans (s5.trans t5))).drop (((u6.trans x5.wid).trans y4.wid).trans z5.wid) (fun m hm => by
    rcases List.mem_cons.mp hm with e | hm
    · exact .inl (by simp [e])
    · right
      rw [List.mem_singleton.mp hm]
      exact (q5.trans r5).1))
  refine ⟨f, (a5, row), M9, fnF_rt rfl ?_, ⟨⟨by show 1 ≤ 1 + a1; omega, by show 1 + a1 ≤ 6; omega, by show 1 ≤ 1 + a2; omega, by show 1 + a2 ≤ 3; omega, by show ss.length ≤ 12; omega, fun s hs => u3 s hs ss⟩, ⟨x2, x3, by show (row.length : Int) = 1 + a2; omega, fun v hv => (z3 v hv).1⟩, fun v hv => by have := (z3 v hv).2; omega, by show ss.length ≤ 4; omega, by show 1 ≤ ss.length; omega⟩, z4, ktot⟩
  refine (fSq_nx (M1 := M2) (e1 := [some (.adr n), some (.int (1 + a1)), some (.int (1 + a2)), none, none, none, none, none, none, none, none]) (by simp [q1, r1])).trans ?_
  refine (fSq_nx (M1 := M4) (e1 := [some (.adr n), some (.int (1 + a1)), some (.int (1 + a2)), some (.adr k), some (.int a3), none, none, none, none, none, none]) ?_).trans ?_
  · have s1' : F__law_draw [.adr n, .int 3] (M2 ++ [some (.lst [])]) = .ok (.int a3) M4 := s1
    simp [s1']
    rfl
  have hr := kRng1_int (j := 1 + a4) (M := M5) (by omega) (by rw [sizeLine_eq]; omega)
  refine (fSq_nx (M1 := M6) (e1 := [some (.adr n), some (.int (1 + a1)), some (.int (1 + a2)), some (.adr k), some (.int a3), z, none, x7, x8, none, none]) ?_).trans ?_
  · show ((fRng1 _ _ M4).bind fun l M1 => loopF M1 l.2 (.nm 5) tameB l.1 _ M1) = _
    simp only [fRng1, aC, aN, e2, eC, eF, eV, List.getElem?_cons_zero, List.getElem?_cons_succ, bind_ok, List.length_cons, List.length_nil, pick, List.filterMap_cons, List.filterMap_nil, List.append_nil]
    simp [t1, hr]
    exact u1
  have u5' := u5
  simp only [List.map_cons, List.map_nil] at y1
  simp [u5', x1, y1, z1, Frm.d, pD]
  exact ⟨rfl, rfl, rfl⟩
end Lw

set_option maxHeartbeats 1000000
/-! k50: the pot, all runs. -/
namespace Lw
open PySem PySem.Spec PyProof.Rows L2 Dl
theorem pot_ok (ns : List Int) (M : Mem) : ∃ M', F__law_pot [.scr ns] M = .ok (.adr M.length) M' ∧ Pot M' M.length := by
  let b : Fs := (fSet 1 (e2 kMod (eB kInt1 (aC (e2 kAdd (e2 kAdd (e2 kMulA (eV 1) (eC (.int 42829))) (e2 kMod (eB kInt1 (aC (eV 2) aN)) (eC (.int 2147483579)))) (eC (.int 74377))) aN)) (eC (.int 2147483629))))
  obtain ⟨env', M1, h1, fd, z, rfl, h2, h3, hM⟩ := loop_inv (M0 := M) (pin := []) (p := .nm 2) (b := b) D.int (fun i env M' => ∃ (fd : Int) (z : Option D), env = [some (.scr ns), some (.int fd), z, none] ∧ 0 ≤ fd ∧ fd < 2147483629 ∧ M' = M) (fun _ _ _ _ => rfl) ns 0 [some (.scr ns), some (.int 2657), none, none] M (fun j c env M2 e q => by
    obtain ⟨fd, z, rfl, q1, q2, rfl⟩ := q
    have c1 : cMul fd 42829 = true := cmul_of q1 (by omega)
    obtain ⟨r1, r2⟩ := fmod_nn (a := fd * 42829 + c.fmod 2147483579 + 74377) (b := 2147483629) (by decide)
    exact ⟨_, [some (.scr ns), some (.int ((fd * 42829 + c.fmod 2147483579 + 74377).fmod 2147483629)), some (.int c), none], M2, rfl, by simp [b, c1], _, _, rfl, r1, r2, rfl⟩) ⟨2657, none, rfl, by decide, by decide, rfl⟩
  rw [hM] at h1
  have step1 : (fFor (fItA (eV 0)) (.nm 2) b) [some (.scr ns), some (.int 2657), none, none] M = .ok (.nx [some (.scr ns), some (.int fd), z, none]) M := by
    show ((fItA (eV 0)) _ M).bind (fun l M1 => loopF M1 l.2 (.nm 2) b l.1 _ M1) = _
    simp
    exact h1
  have fin : ∀ i : Int, ∃ M', (fRet (fA (aC (eB kMax2 (aC (eC (.int 0)) (aC (e2 kSub (eV 3) (e2 kPow (eC (.int 10)) (eC (.int 18)))) aN))) (aC (e2 kAdd (eV 1) (eC (.int 1))) aN)))) [some (.scr ns), some (.int fd), z, some (.int i)] M = .ok (.rt (.adr M.length)) M' ∧ Pot M' M.length := fun i => by
    refine ⟨M ++ [some (.lst [.int (if i - 1000000000000000000 > 0 then i - 1000000000000000000 else 0), .int (fd + 1)])], ?_, _, _, by rw [List.getElem?_append_right (Nat.le_refl _)]; simp; exact ⟨rfl, rfl⟩, ?_, by omega, by omega⟩
    · simp [kPow, cPow]
    · split <;> omega
  cases ns with
  | nil =>
    obtain ⟨M', f1, f2⟩ := fin 0
    refine ⟨M', fnF_rt rfl ?_, f2⟩
    refine (fSq_nx (M1 := M) (e1 := [some (.scr []), some (.int 2657), none, none]) (by simp)).trans ?_
    refine (fSq_nx step1).trans ?_
    exact (fSq_nx (M1 := M) (e1 := [some (.scr []), some (.int fd), z, some (.int 0)]) (by simp)).trans f1
  | cons c ns =>
    obtain ⟨M', f1, f2⟩ := fin (if c < 0 then -c else c)
    refine ⟨M', fnF_rt rfl ?_, f2⟩
    refine (fSq_nx (M1 := M) (e1 := [some (.scr (c :: ns)), some (.int 2657), none, none]) (by simp)).trans ?_
    refine (fSq_nx step1).trans ?_
    refine (fSq_nx (M1 := M) (e1 := [some (.scr (c :: ns)), some (.int fd), z, some (.int (if c < 0 then -c else c))]) ?_).trans f1
    have : (0 : Int) < (ns.length : Int) + 1 := by omega
    simp [this]
/-! ### all runs -/
def eD (e : Ent) : D := .tup [wD e.1, pD e.2]
def x2 (e : Ent) (si : Stp × Nat) : Option Ent := if letB e.2 si.1 = true then some (e.1 ++ [si.2], go e.2 si.1) else none
theorem zip_range {α β : Type} (g : α → Nat → Option β) : ∀ (l : List α) (k : Nat), (l.zipIdx k).filterMap (fun ai => g ai.1 ai.2) = (List.range l.length).filterMap fun i => (l[i]?).bind fun a => g a (k + i)
  | [], k => by simp
  | a :: l, k => by
    rw [List.zipIdx_cons, List.length_cons, List.range_succ_eq_map, List.filterMap_cons, List.filterMap_cons]
    have ih := zip_range g l (k + 1)
    have e : ((List.range l.length).map Nat.succ).filterMap (fun i => ((a :: l)[i]?).bind fun a => g a (k + i)) = (List.range l.length).filterMap fun i => (l[i]?).bind fun a => g a (k + 1 + i) := by
      rw [List.filterMap_map]
      congr 1
      funext i
      simp only [Function.comp, Nat.succ_eq_add_one, List.getElem?_cons_succ]
      rw [show k + (i + 1) = k + 1 + i by omega]
    rw [e, ← ih]
    simp
theorem x2_exts (f : Frm) (e : Ent) : f.ss.zipIdx.filterMap (x2 e) = exts f e := by
  have h := zip_range (fun (s : Stp) (i : Nat) => if letB e.2 s = true then some (e.1 ++ [i], go e.2 s) else none) f.ss 0
  have h' : f.ss.zipIdx.filterMap (x2 e) = _ := h
  rw [h']
  unfold exts lets
  rw [List.filterMap_filter]
  congr 1
  funext i
  cases hs : f.ss[i]? with
  | none => simp
  | some s => simp
def runB : Fs := (fIf (tAndF (tBl (e2 kEqA (e2 kIxA (eV 9) (eC (.int 1))) (e2 kIxA (eV 7) (eC (.int 0))))) (tV (eF 2 0 [0, 1] F__law_is_least (aC (e2 kIxA (eV 7) (eC (.int 1))) (aC (e2 kIxA (eV 9) (eC (.int 3))) aN)) aN))) (fDrop (eM kAppend (eV 5) (aC (eTup (aC (e2 kAdd (eV 6) (eTup (aC (eV 8) aN))) (aC (eTup (aC (e2 kIxA (eV 9) (eC (.int 2))) (aC (eB kTupOf (aC (fV (fLc [10, 11] (fZip (aC (e2 kIxA (eV 7) (eC (.int 1))) (aC (e2 kIxA (eV 9) (eC (.int 4))) aN))) (.tp [10, 11]) tYesF (e2 kAdd (eV 10) (eV 11)))) aN)) aN))) aN))) aN))) fN)
theorem run_turn {a0 a1 a2 a3 a4 : Option D} {k : Nat} {e : Ent} {i : Nat} {s : Stp} {M : Mem} {acc : List Ent} (hk : M[k]? = some (some (.lst (acc.map eD)))) (hl : acc.length < sizeLine) (hw : e.1.length + 1 ≤ sizeLine) :
    runB [a0, a1, a2, a3, a4, some (.adr k), some (wD e.1), some (pD e.2), some (.int (i : Nat)), some s.d, none, none] M = .ok (.nx [a0, a1, a2, a3, a4, some (.adr k), some (wD e.1), some (pD e.2), some (.int (i : Nat)), some s.d, none, none]) (M.set k (some (.lst ((acc ++ (x2 e (s, i)).toList).map eD)))) := by
  have hs : M.set k (some (.lst (acc.map eD))) = M := by
    refine List.ext_getElem? fun m => ?_
    by_cases hm : k = m
    · subst hm; rw [List.getElem?_set_self (lt_of_some hk), hk]
    · rw [List.getElem?_set_ne hm]
  by_cases h1 : s.fr = e.2.1
  · cases h2 : leB e.2.2 s.ws with
    | true =>
      have hx : x2 e (s, i) = some (e.1 ++ [i], go e.2 s) := by simp [x2, letB, h1, h2]
      have ha := add_wD hw i M
      have hz := zip_ints e.2.2 s.es
      have hc : ∀ (M0 : Mem) (env0 : Dl.Env), env0.length = 12 → compF M0 [] (.tp [10, 11]) tYesF (e2 kAdd (eV 10) (eV 11)) env0 (zipD (e.2.2.map D.int) (s.es.map D.int)) M = .ok ((addL e.2.2 s.es).map D.int) M := fun M0 env0 he => by
        rw [hz, comp_all2 (fun x => .int (x.1 + x.2))]
        · simp [addL]
        · intro x hx
          exact ⟨_, rfl, by simp [he]⟩
      have ha' : kAdd (wD e.1) (.tup [.int (i : Nat)]) M = .ok (wD (e.1 ++ [i])) M := ha
      simp [runB, Stp.d, pD, h1, lawleast_ok, h2, hk, -kAdd, ha', hc, hl, hx]
      simp [eD, pD, go]
    | false =>
      have hx : x2 e (s, i) = none := by simp [x2, letB, h2]
      simp [runB, Stp.d, pD, h1, lawleast_ok, h2, hx, hs]
  · have hx : x2 e (s, i) = none := by simp [x2, letB, h1]
    simp [runB, Stp.d, pD, h1, hx, hs]
end Lw

set_option maxHeartbeats 1000000
/-! k50: all runs. -/
namespace Lw
open PySem PySem.Spec PyProof.Rows L2 Dl
theorem set_set_ {M : Mem} {k : Nat} {a b : Option MO} : (M.set k a).set k b = M.set k b := List.set_set ..
theorem inner_ok {a0 a1 a2 a3 a4 : Option D} {k : Nat} {e : Ent} {M0 : Mem} (hw : e.1.length + 1 ≤ sizeLine) : ∀ (l : List (Stp × Nat)) (acc : List Ent) (z8 z9 : Option D) (M : Mem), M[k]? = some (some (.lst (acc.map eD))) → acc.length + l.length < sizeLine →
    ∃ y8 y9, loopF M0 [] (.tp [8, 9]) runB (l.map fun ai => D.tup [.int (ai.2 : Nat), Stp.d ai.1]) [a0, a1, a2, a3, a4, some (.adr k), some (wD e.1), some (pD e.2), z8, z9, none, none] M = .ok (.nx [a0, a1, a2, a3, a4, some (.adr k), some (wD e.1), some (pD e.2), y8, y9, none, none]) (M.set k (some (.lst ((acc ++ l.filterMap (x2 e)).map eD))))
  | [], acc, z8, z9, M, hk, _ => by
    refine ⟨z8, z9, ?_⟩
    have hs : M.set k (some (.lst (acc.map eD))) = M := by
      refine List.ext_getElem? fun m => ?_
      by_cases hm : k = m
      · subst hm; rw [List.getElem?_set_self (lt_of_some hk), hk]
      · rw [List.getElem?_set_ne hm]
    simp [hs]
  | (s, i) :: l, acc, z8, z9, M, hk, hl => by
    have hl1 : acc.length < sizeLine := by simp at hl; omega
    have t := run_turn (a0 := a0) (a1 := a1) (a2 := a2) (a3 := a3) (a4 := a4) (e := e) (i := i) (s := s) hk hl1 hw
    have hk2 : (M.set k (some (.lst ((acc ++ (x2 e (s, i)).toList).map eD))))[k]? = some (some (.lst ((acc ++ (x2 e (s, i)).toList).map eD))) := List.getElem?_set_self (lt_of_some hk)
    have hl2 : (acc ++ (x2 e (s, i)).toList).length + l.length < sizeLine := by
      have : (x2 e (s, i)).toList.length ≤ 1 := by cases x2 e (s, i) <;> simp
      simp at hl ⊢; omega
    obtain ⟨y8, y9, ih⟩ := inner_ok hw l _ (some (.int (i : Nat))) (some s.d) _ hk2 hl2
    refine ⟨y8, y9, ?_⟩
    rw [List.map_cons, loop_cons (e1 := [a0, a1, a2, a3, a4, some (.adr k), some (wD e.1), some (pD e.2), some (.int (i : Nat)), some s.d, none, none]) rfl]
    rw [t]
    simp only [bind_ok]
    rw [ih, set_set_]
    congr 4
    rw [List.filterMap_cons]
    cases x2 e (s, i) <;> simp
def levB : Fs := (fFor (fEnumA (aC (e2 kIxA (eV 0) (eC (.int 3))) aN)) (.tp [8, 9]) runB)
theorem level_ok {f : Frm} (hf : f.Ok) {a1 a2 a3 a4 : Option D} {k : Nat} {M0 : Mem} : ∀ (R : List Ent) (acc : List Ent) (z6 z7 z8 z9 : Option D) (M : Mem), (∀ e ∈ R, e.1.length + 1 ≤ sizeLine) → M[k]? = some (some (.lst (acc.map eD))) → (acc.length + 4 * R.length < sizeLine) → f.ss.length ≤ 4 →
    ∃ y6 y7 y8 y9, loopF M0 [] (.tp [6, 7]) levB (R.map eD) [some f.d, a1, a2, a3, a4, some (.adr k), z6, z7, z8, z9, none, none] M = .ok (.nx [some f.d, a1, a2, a3, a4, some (.adr k), y6, y7, y8, y9, none, none]) (M.set k (some (.lst ((acc ++ R.flatMap (exts f)).map eD))))
  | [], acc, z6, z7, z8, z9, M, _, hk, _, _ => by
    refine ⟨z6, z7, z8, z9, ?_⟩
    have hs : M.set k (some (.lst (acc.map eD))) = M := by
      refine List.ext_getElem? fun m => ?_
      by_cases hm : k = m
      · subst hm; rw [List.getElem?_set_self (lt_of_some hk), hk]
      · rw [List.getElem?_set_ne hm]
    simp [hs]
  | e :: R, acc, z6, z7, z8, z9, M, hw, hk, hl, h4 => by
    have hz : f.ss.zipIdx.length = f.ss.length := List.length_zipIdx
    obtain ⟨y8, y9, h1⟩ := inner_ok (a0 := some f.d) (a1 := a1) (a2 := a2) (a3 := a3) (a4 := a4) (k := k) (e := e) (M0 := M) (hw e List.mem_cons_self) f.ss.zipIdx acc z8 z9 M hk (by simp at hl; omega)
    rw [x2_exts] at h1
    have hk2 : (M.set k (some (.lst ((acc ++ exts f e).map eD))))[k]? = some (some (.lst ((acc ++ exts f e).map eD))) := List.getElem?_set_self (lt_of_some hk)
    have hx : (exts f e).length ≤ 4 := by
      have : (exts f e).length ≤ f.ss.zipIdx.length := by rw [← x2_exts]; exact List.length_filterMap_le _ _
      omega
    obtain ⟨y6, y7, u8, u9, ih⟩ := level_ok hf (M0 := M0) (a1 := a1) (a2 := a2) (a3 := a3) (a4 := a4) R (acc ++ exts f e) (some (wD e.1)) (some (pD e.2)) y8 y9 _ (fun x hx => hw x (List.mem_cons_of_mem _ hx)) hk2 (by simp at hl ⊢; omega) h4
    refine ⟨y6, y7, u8, u9, ?_⟩
    rw [List.map_cons, loop_cons (e1 := [some f.d, a1, a2, a3, a4, some (.adr k), some (wD e.1), some (pD e.2), z8, z9, none, none]) rfl]
    have hb : levB [some f.d, a1, a2, a3, a4, some (.adr k), some (wD e.1), some (pD e.2), z8, z9, none, none] M = .ok (.nx [some f.d, a1, a2, a3, a4, some (.adr k), some (wD e.1), some (pD e.2), y8, y9, none, none]) (M.set k (some (.lst ((acc ++ exts f e).map eD)))) := by
      have hn := numD_map Stp.d f.ss 0
      simp only [levB, fFor]
      simp [Frm.d, hn]
      simp only [Frm.d, List.map_append] at h1
      exact h1
    rw [hb]
    simp only [bind_ok]
    rw [ih, set_set_, List.flatMap_cons, List.append_assoc]
theorem runs_len {f : Frm} {p : Plc} (h4 : f.ss.length ≤ 4) : ∀ t, (runsG f p (fun _ _ => true) t).length ≤ 4 ^ t
  | 0 => Nat.le_refl _
  | t + 1 => by
    have ih := runs_len (p := p) h4 t
    show (((runsG f p (fun _ _ => true) t).filter fun _ => true).flatMap (exts f)).length ≤ _
    rw [List.filter_eq_self.mpr fun _ _ => rfl]
    have : ∀ R : List Ent, (R.flatMap (exts f)).length ≤ 4 * R.length := fun R => by
      induction R with
      | nil => simp
      | cons e R ih =>
        have hx : (exts f e).length ≤ f.ss.zipIdx.length := by rw [← x2_exts]; exact List.length_filterMap_le _ _
        have hz : f.ss.zipIdx.length = f.ss.length := List.length_zipIdx
        rw [List.flatMap_cons, List.length_append, List.length_cons]; omega
    have := this (runsG f p (fun _ _ => true) t)
    rw [Nat.pow_succ]; omega
def Lv (f : Frm) (p : Plc) (t : Nat) : List D := (List.range t).map fun s => D.lst ((runsG f p (fun _ _ => true) s).map eD)
theorem Lv_succ (f : Frm) (p : Plc) (t : Nat) : Lv f p (t + 1) = Lv f p t ++ [D.lst ((runsG f p (fun _ _ => true) t).map eD)] := by
  unfold Lv
  rw [List.range_succ, List.map_append]; rfl
theorem allruns_ok {f : Frm} (hf : f.Ok) (h4 : f.ss.length ≤ 4) {p : Plc} (hp : Gp f p) (M : Mem) :
    ∃ M', F__law_all_runs [f.d, pD p, .int 4] M = .ok (.lst (Lv f p 5)) M' ∧ Kept [] M M' := by
  let k1 := M.length
  let M1 : Mem := M ++ [some (.lst (Lv f p 1))]
  have hm : ∀ x ∈ p.2, x ≤ p.2.foldr (fun a b => if a ≤ b then b else a) 0 := fun x hx => by
    have : ∀ l : List Int, ∀ x ∈ l, x ≤ l.foldr (fun a b => if a ≤ b then b else a) 0 := fun l => by
      induction l with
      | nil => intro x hx; cases hx
      | cons a l ih =>
        intro x hx
        rw [List.foldr_cons]
        rcases List.mem_cons.mp hx with rfl | hx
        · split <;> omega
        · have := ih x hx
          split <;> omega
    exact this _ x hx
  let turnB : Fs := (fSq (fSet 5 (fA aN)) (fSq (fFor (fItA (e2 kIxA (eV 3) (e1 kNeg (eC (.int 1))))) (.tp [6, 7]) levB) (fDrop (eM kAppend (eV 3) (aC (eFz (eV 5)) aN)))))
  obtain ⟨env', M2, h1, ⟨u4, u5, u6, u7, u8, u9, rfl⟩, h3, h5⟩ := loop_inv (M0 := M1) (pin := []) (p := .nm 4) (b := turnB) (fun (i : Nat) => D.int (i : Nat)) (fun t env M' => (∃ u4 u5 u6 u7 u8 u9, env = [some f.d, some (pD p), some (.int 4), some (.adr k1), u4, u5, u6, u7, u8, u9, none, none]) ∧ M'[k1]? = some (some (.lst (Lv f p (t + 1)))) ∧ Kept [] M M') (fun _ _ _ _ => rfl) (List.range 4) 0 [some f.d, some (pD p), some (.int 4), some (.adr k1), none, none, none, none, none, none, none, none] M1 (fun t i env M3 e q => by
    rw [Nat.zero_add] at q ⊢
    obtain ⟨⟨u4, u5, u6, u7, u8, u9, rfl⟩, q1, q2⟩ := q
    have ht : t < 4 := by have := lt_of_some e; simpa using this
    let k2 := M3.length
    have l1 := lt_of_some q1
    have hne : k1 ≠ k2 := Nat.ne_of_lt l1
    let M4 : Mem := M3 ++ [some (.lst [])]
    have hk2 : M4[k2]? = some (some (.lst (([] : List Ent).map eD))) := by show (M3 ++ _)[M3.length]? = _; rw [List.getElem?_append_right (Nat.le_refl _)]; simp
    have hk1 : M4[k1]? = some (some (.lst (Lv f p (t + 1)))) := by show (M3 ++ _)[k1]? = _; rw [List.getElem?_append_left l1]; exact q1
    have len := runs_len (f := f) (p := p) h4 t
    have pw : 4 ^ t ≤ 4 ^ 4 := Nat.pow_le_pow_right (by decide) (by omega)
    have p4 : 4 ^ 4 = 256 := by decide
    obtain ⟨y6, y7, y8, y9, r1⟩ := level_ok hf (a1 := some (pD p)) (a2 := some (.int 4)) (a3 := some (.adr k1)) (a4 := some (.int (i : Nat))) (k := k2) (M0 := M4) (runsG f p (fun _ _ => true) t) [] u6 u7 u8 u9 M4 (fun e he => by
      have := (runsG_ok hf hp hm t e he).len
      rw [sizeLine_eq]; omega) hk2 (by rw [sizeLine_eq]; simp; omega) h4
    rw [List.nil_append] at r1
    have er : (runsG f p (fun _ _ => true) t).flatMap (exts f) = runsG f p (fun _ _ => true) (t + 1) := by
      show _ = ((runsG f p (fun _ _ => true) t).filter fun _ => true).flatMap (exts f)
      rw [List.filter_eq_self.mpr fun _ _ => rfl]
    rw [er] at r1
    let M5 : Mem := M4.set k2 (some (.lst ((runsG f p (fun _ _ => true) (t + 1)).map eD)))
    have hk5 : M5[k2]? = some (some (.lst ((runsG f p (fun _ _ => true) (t + 1)).map eD))) := List.getElem?_set_self (lt_of_some hk2)
    have hk51 : M5[k1]? = some (some (.lst (Lv f p (t + 1)))) := by show (M4.set k2 _)[k1]? = _; rw [List.getElem?_set_ne (Ne.symm hne)]; exact hk1
    have hk61 : (M5.set k2 none)[k1]? = some (some (.lst (Lv f p (t + 1)))) := by rw [List.getElem?_set_ne (Ne.symm hne)]; exact hk51
    have hlv : (Lv f p (t + 1)).length < sizeLine := by unfold Lv; rw [List.length_map, List.length_range, sizeLine_eq]; omega
    refine ⟨[some f.d, some (pD p), some (.int 4), some (.adr k1), some (.int (i : Nat)), u5, u6, u7, u8, u9, none, none], [some f.d, some (pD p), some (.int 4), some (.adr k1), some (.int (i : Nat)), some (.adr k2), y6, y7, y8, y9, none, none], (M5.set k2 none).set k1 (some (.lst (Lv f p (t + 1) ++ [D.lst ((runsG f p (fun _ _ => true) (t + 1)).map eD)]))), rfl, ?_, ⟨_, _, _, _, _, _, rfl⟩, ?_, ?_⟩
    · refine (fSq_nx (M1 := M4) (e1 := [some f.d, some (pD p), some (.int 4), some (.adr k1), some (.int (i : Nat)), some (.adr k2), u6, u7, u8, u9, none, none]) rfl).trans ?_
      refine (fSq_nx (M1 := M5) (e1 := [some f.d, some (pD p), some (.int 4), some (.adr k1), some (.int (i : Nat)), some (.adr k2), y6, y7, y8, y9, none, none]) ?_).trans ?_
      · have ha : L2.atI (Lv f p (t + 1)) (-1) = some (D.lst ((runsG f p (fun _ _ => true) t).map eD)) := by rw [Lv_succ]; exact Dl.atI_last _ _
        show ((fItA (e2 kIxA (eV 3) (e1 kNeg (eC (.int 1)))) [some f.d, some (pD p), some (.int 4), some (.adr k1), some (.int (i : Nat)), some (.adr k2), u6, u7, u8, u9, none, none] M4).bind fun l M1 => loopF M1 l.2 (.tp [6, 7]) levB l.1 [some f.d, some (pD p), some (.int 4), some (.adr k1), some (.int (i : Nat)), some (.adr k2), u6, u7, u8, u9, none, none] M1) = _
        simp [hk1, ha]
        exact r1
      · have : (asL M5 (.adr k1)).isSome = true := by simp [hk51]
        simp [hk51, hk5, hk61, hlv]
    · rw [List.getElem?_set_self (lt_of_some hk61), Lv_succ f p (t + 1)]
    · refine ⟨by have := q2.1; simp [M5, M4]; omega, fun m hm _ => ?_⟩
      have n1 : k1 ≠ m := Nat.ne_of_gt hm
      have n2 : k2 ≠ m := by have := q2.1; exact Nat.ne_of_gt (by show m < M3.length; omega)
      rw [List.getElem?_set_ne n1, List.getElem?_set_ne n2]
      show (M4.set k2 _)[m]? = _
      rw [List.getElem?_set_ne n2]
      show (M3 ++ _)[m]? = _
      rw [List.getElem?_append_left (by have := q2.1; omega)]
      exact q2.2 m hm (by simp)) ⟨⟨none, none, none, none, none, none, rfl⟩, by show (M ++ _)[M.length]? = _; rw [List.getElem?_append_right (Nat.le_refl _)]; simp, Kept.new M _ []⟩
  rw [Nat.zero_add, List.length_range] at h3
  refine ⟨M2.set k1 none, fnF_rt rfl ?_, ⟨by have := h5.1; simpa using this, fun m hm _ => by
    rw [List.getElem?_set_ne (Nat.ne_of_gt hm)]; exact h5.2 m hm (by simp)⟩⟩
  refine (fSq_nx (M1 := M1) (e1 := [some f.d, some (pD p), some (.int 4), some (.adr k1), none, none, none, none, none, none, none, none]) ?_).trans ?_
  · simp [M1, Lv, runsG, eD, wD, List.range_succ]
    rfl
  have hr := kRng1_int (j := 4) (M := M1) (by decide) (by rw [sizeLine_eq]; decide)
  refine (fSq_nx (M1 := M2) (e1 := [some f.d, some (pD p), some (.int 4), some (.adr k1), u4, u5, u6, u7, u8, u9, none, none]) ?_).trans ?_
  · show ((fRng1 (aC (eV 2) aN) [some f.d, some (pD p), some (.int 4), some (.adr k1), none, none, none, none, none, none, none, none] M1).bind fun l M1 => loopF M1 l.2 (.nm 4) turnB l.1 [some f.d, some (pD p), some (.int 4), some (.adr k1), none, none, none, none, none, none, none, none] M1) = _
    simp [hr]
    exact h1
  · simp [h3]
end Lw

set_option maxHeartbeats 1000000
/-! k50: a run gone again. -/
namespace Lw
open PySem PySem.Spec PyProof.Rows L2 Dl
inductive VR (f : Frm) : Plc → Way → Plc → Prop
  | nil (q : Plc) : VR f q [] q
  | cons {q q' : Plc} {i : Nat} {s : Stp} {w : Way} : f.ss[i]? = some s → letB q s = true → VR f (go q s) w q' → VR f q (i :: w) q'
theorem VR.snoc {f : Frm} {p q : Plc} {w : Way} (h : VR f p w q) {i : Nat} {s : Stp} (hs : f.ss[i]? = some s) (hl : letB q s = true) : VR f p (w ++ [i]) (go q s) := by
  induction h with
  | nil q => exact .cons hs hl (.nil _)
  | cons a b _ ih => exact .cons a b (ih hl)
theorem runs_vr {f : Frm} {p : Plc} {gd : Nat → Plc → Bool} : ∀ t, ∀ e ∈ runsG f p gd t, VR f p e.1 e.2
  | 0, e, he => by
    have : e = ([], p) := List.mem_singleton.mp he
    subst this
    exact .nil _
  | t + 1, e, he => by
    obtain ⟨e0, h0, h1⟩ := List.mem_flatMap.mp he
    obtain ⟨i, s, hs, hl, rfl⟩ := exts_of h1
    exact (runs_vr t e0 (List.mem_filter.mp h0).1).snoc hs hl
def wk (f : Frm) : Plc → Way → List Plc
  | _, [] => []
  | q, i :: w => match f.ss[i]? with
    | some s => go q s :: wk f (go q s) w
    | none => []
theorem wk_last {f : Frm} {p q : Plc} {w : Way} (h : VR f p w q) : ∃ l, p :: wk f p w = l ++ [q] := by
  induction h with
  | nil q => exact ⟨[], rfl⟩
  | @cons q q' i s w hs hl _ ih =>
    obtain ⟨l, e⟩ := ih
    exact ⟨q :: l, by simp only [wk, hs]; rw [e]; rfl⟩
theorem VR.lt {f : Frm} {p q : Plc} {w : Way} (h : VR f p w q) : ∀ i ∈ w, i < f.ss.length := by
  induction h with
  | nil => intro i hi; cases hi
  | cons hs _ _ ih =>
    intro j hj
    rcases List.mem_cons.mp hj with e | hj
    · rw [e]; exact lt_of_some hs
    · exact ih j hj
theorem VR.chain {f : Frm} {p q : Plc} {w : Way} (h : VR f p w q) : ∀ x ∈ w.zip (w.drop 1), ∃ s s', f.ss[x.1]? = some s ∧ f.ss[x.2]? = some s' ∧ s.to = s'.fr := by
  induction h with
  | nil => intro x hx; simp at hx
  | @cons q q' i s w hs hl t ih =>
    intro x hx
    cases t with
    | nil => simp at hx
    | @cons _ _ j s' w hs' hl' t' =>
      rw [List.drop_succ_cons, List.drop_zero, List.zip_cons_cons] at hx
      rcases List.mem_cons.mp hx with e | hx
      · subst e
        refine ⟨s, s', hs, hs', ?_⟩
        unfold letB go at hl'
        have := of_decide_eq_true ((Bool.and_eq_true _ _).mp hl').1
        exact this.symm
      · exact ih x (by rw [List.drop_succ_cons, List.drop_zero]; exact hx)
theorem cut1 {α : Type} (l : List D) : cutD l (some 1) none = l.drop 1 := by
  unfold Dl.cutD
  have h : HT.sIx l.length 0 (some 1) = min 1 l.length := HT.sIx_nat l.length 0 1
  rw [h, HT.sIx_none]
  by_cases hl : 1 ≤ l.length
  · rw [Nat.min_eq_left hl, List.take_of_length_le (by simp)]
  · have : l.length = 0 := by omega
    have e : l = [] := List.length_eq_zero_iff.mp this
    subst e; rfl
theorem way_ok {f : Frm} (hf : f.Ok) {p q : Plc} {w : Way} (h : VR f p w q) (M : Mem) : F_way_is_right [f.d, wD w] M = .ok (.bl true) M := by
  have hz : zipD (w.map fun (n : Nat) => D.int n) ((w.map fun (n : Nat) => D.int n).drop 1) = (w.zip (w.drop 1)).map fun ab => D.tup [.int (ab.1 : Nat), .int (ab.2 : Nat)] := by
    rw [← List.map_drop]
    exact zip_ints' (fun (n : Nat) => D.int n) (fun (n : Nat) => D.int n) w (w.drop 1)
  simp [F_way_is_right, B_way_is_right, wD, Frm.d]
  rw [comp_all2 (l := w) (fun _ => .bl true)]
  · simp
    rw [cut1 (α := Nat), hz, comp_all2 (fun _ => .bl true)]
    · simp
    · intro x hx
      obtain ⟨s, s', h1, h2, h3⟩ := h.chain x hx
      exact ⟨_, rfl, by simp [atN, h1, h2, Stp.d, h3]⟩
  · intro i hi
    have := h.lt i hi
    exact ⟨_, rfl, by simp [this]⟩
theorem cway_ok {f : Frm} (hf : f.Ok) {p q : Plc} {w : Way} (h : VR f p w q) (hw : w.length ≤ 5000) (M : Mem) : F_check_way [f.d, wD w] M = .ok .non M := by
  have hl : ¬ (5000 : Int) < (w.length : Int) := by omega
  have e : (wD w) = .tup (w.map fun (n : Nat) => .int n) := rfl
  simp [F_check_way, B_check_way, way_ok hf h]
  rw [e]
  simp [hl]
def palB : Fs := (fSq (fIf (tNotF (tV (eF 3 0 [0, 1, 2] F_is_let (aC (eV 0) (aC (e2 kIxA (eV 3) (e1 kNeg (eC (.int 1)))) (aC (eV 4) aN))) aN))) (fRet (eC .non)) fN) (fDrop (eM kAppend (eV 3) (aC (eF 3 0 [0, 1, 2] F_led_by (aC (eV 0) (aC (e2 kIxA (eV 3) (e1 kNeg (eC (.int 1)))) (aC (eV 4) aN))) aN) aN))))
theorem pal_loop {f : Frm} {a1 a2 : Option D} {k : Nat} {M0 : Mem} {q q' : Plc} {w : Way} (h : VR f q w q') : ∀ (acc : List Plc) (z : Option D) (M : Mem), M[k]? = some (some (.lst ((acc ++ [q]).map pD))) → acc.length + 1 + w.length < sizeLine →
    ∃ z', loopF M0 [] (.nm 4) palB (w.map fun (n : Nat) => D.int n) [some f.d, a1, a2, some (.adr k), z] M = .ok (.nx [some f.d, a1, a2, some (.adr k), z']) (M.set k (some (.lst ((acc ++ q :: wk f q w).map pD)))) := by
  induction h with
  | nil q =>
    intro acc z M hk _
    refine ⟨z, ?_⟩
    have hs : M.set k (some (.lst ((acc ++ [q]).map pD))) = M := by
      refine List.ext_getElem? fun m => ?_
      by_cases hm : k = m
      · subst hm; rw [List.getElem?_set_self (lt_of_some hk), hk]
      · rw [List.getElem?_set_ne hm]
    simp only [wk]
    rw [hs]; simp
  | @cons q q' i s w hs hl _ ih =>
    intro acc z M hk hlen
    have ha : L2.atI ((acc ++ [q]).map pD) (-1) = some (pD q) := by rw [List.map_append]; exact Dl.atI_last _ _
    have hk2 : (M.set k (some (.lst (((acc ++ [q]) ++ [go q s]).map pD))))[k]? = some (some (.lst (((acc ++ [q]) ++ [go q s]).map pD))) := List.getElem?_set_self (lt_of_some hk)
    obtain ⟨z', h1⟩ := ih (acc ++ [q]) (some (.int (i : Nat))) _ hk2 (by simp at hlen ⊢; omega)
    refine ⟨z', ?_⟩
    rw [List.map_cons, loop_cons (e1 := [some f.d, a1, a2, some (.adr k), some (.int (i : Nat))]) rfl]
    have hl2 : ((acc ++ [q]).map pD).length < sizeLine := by simp at hlen ⊢; omega
    have hb : palB [some f.d, a1, a2, some (.adr k), some (.int (i : Nat))] M = .ok (.nx [some f.d, a1, a2, some (.adr k), some (.int (i : Nat))]) (M.set k (some (.lst (((acc ++ [q]) ++ [go q s]).map pD)))) := by
      generalize hL : (acc ++ [q]).map pD = L at hk ha hl2
      have e : ((acc ++ [q]) ++ [go q s]).map pD = L ++ [pD (go q s)] := by rw [List.map_append, hL]; rfl
      rw [e]
      simp [palB, hk, ha, islet_ok hs, hl, led_ok hs, hl2]
    rw [hb]
    simp only [bind_ok]
    rw [h1, set_set_]
    congr 4
    simp [wk, hs]
theorem rplaces_ok {f : Frm} (hf : f.Ok) {p q : Plc} {w : Way} (hp : Gp f p) (hp2 : ∀ x ∈ p.2, x ≤ 999) (h : VR f p w q) (hw : w.length ≤ 5000) (M : Mem) : ∃ l M', F_run_places [f.d, pD p, wD w] M = .ok (.lst (l ++ [pD q])) M' ∧ Kept [] M M' := by
  let k := M.length
  let M1 : Mem := M ++ [some (.lst [pD p])]
  have hk : M1[k]? = some (some (.lst (([] ++ [p]).map pD))) := by show (M ++ _)[M.length]? = _; rw [List.getElem?_append_right (Nat.le_refl _)]; simp
  obtain ⟨z', h1⟩ := pal_loop (a1 := some (pD p)) (a2 := some (wD w)) (M0 := M1) h [] none M1 hk (by rw [sizeLine_eq]; simp; omega)
  obtain ⟨l, e⟩ := wk_last h
  rw [List.nil_append, e] at h1
  have hk2 : (M1.set k (some (.lst ((l ++ [q]).map pD))))[k]? = some (some (.lst ((l ++ [q]).map pD))) := List.getElem?_set_self (lt_of_some hk)
  have pal : F_places_along [f.d, pD p, wD w] M = .ok (.lst (l.map pD ++ [pD q])) ((M1.set k (some (.lst ((l ++ [q]).map pD)))).set k none) := by
    refine fnF_rt rfl ?_
    refine (fSq_nx (M1 := M1) (e1 := [some f.d, some (pD p), some (wD w), some (.adr k), none]) rfl).trans ?_
    refine (fSq_nx (M1 := M1.set k (some (.lst ((l ++ [q]).map pD)))) (e1 := [some f.d, some (pD p), some (wD w), some (.adr k), z']) h1).trans ?_
    simp only [List.map_append, List.map_cons, List.map_nil] at hk2
    simp [hk2]
  refine ⟨l.map pD, (M1.set k (some (.lst ((l ++ [q]).map pD)))).set k none, fnF_rt rfl ?_, ?_⟩
  · simp [B_run_places, cfarm_ok hf, cplace_ok hp hp2, cway_ok hf h hw, pal]
  · refine ⟨by simp [M1], fun m hm _ => ?_⟩
    rw [List.getElem?_set_ne (Nat.ne_of_gt hm), List.getElem?_set_ne (Nat.ne_of_gt hm)]
    exact List.getElem?_append_left hm
end Lw

set_option maxHeartbeats 1000000
/-! k50: texts of places, ways, farms. -/
namespace Lw
open PySem PySem.Spec PyProof.Rows L2 Dl
mutual
def sm : PyData → Bool
  | .int i => decide (i.natAbs < 1000)
  | .str _ => true
  | .none => true
  | .tuple xs => sms xs
  | .list xs => sms xs
  | .bool _ => false
  | .dict _ => false
def sms : List PyData → Bool
  | [] => true
  | x :: r => sm x && sms r
end
mutual
theorem sm_ok : ∀ d : PyData, sm d = true → d.showable = true ∧ d.hasDict = false
  | .int i, h => by
    rw [sm] at h
    have := of_decide_eq_true h
    refine ⟨?_, by rw [PyData.hasDict]⟩
    rw [PyData.showable]
    exact decide_eq_true (Nat.lt_of_le_of_lt (Nat.log2_le_self _) (by omega))
  | .str _, _ => ⟨by rw [PyData.showable], by rw [PyData.hasDict]⟩
  | .none, _ => ⟨by rw [PyData.showable], by rw [PyData.hasDict]⟩
  | .tuple xs, h => by
    rw [sm] at h
    rw [PyData.showable, PyData.hasDict]
    exact sms_ok xs h
  | .list xs, h => by
    rw [sm] at h
    rw [PyData.showable, PyData.hasDict]
    exact sms_ok xs h
  | .bool _, h => by rw [sm] at h; cases h
  | .dict _, h => by rw [sm] at h; cases h
theorem sms_ok : ∀ ds : List PyData, sms ds = true → PyData.showableAll ds = true ∧ PyData.hasDictAll ds = false
  | [], _ => ⟨rfl, rfl⟩
  | d :: r, h => by
    rw [sms, Bool.and_eq_true] at h
    obtain ⟨h1, h2⟩ := sm_ok d h.1
    obtain ⟨h3, h4⟩ := sms_ok r h.2
    exact ⟨by rw [PyData.showableAll, h1, h3]; rfl, by rw [PyData.hasDictAll, h2, h4]; rfl⟩
end
theorem sms_map {α : Type} (g : α → PyData) (l : List α) (h : ∀ a ∈ l, sm (g a) = true) : sms (l.map g) = true := by
  induction l with
  | nil => rfl
  | cons a l ih => rw [List.map_cons, sms, h a List.mem_cons_self, ih fun b hb => h b (List.mem_cons_of_mem _ hb)]; rfl
theorem piled_le : ∀ (ts : List Str) (c : Nat), (∀ t ∈ ts, t.length ≤ c) → piled ts ≤ (c + 2) * ts.length
  | [], c, _ => by simp [piled]
  | t :: ts, c, h => by
    have ih := piled_le ts c fun x hx => h x (List.mem_cons_of_mem _ hx)
    have := h t List.mem_cons_self
    have e : piled (t :: ts) = (t.length + 2) + piled ts := by simp [piled]
    rw [e, List.length_cons, Nat.mul_succ]
    omega
theorem tup_le (ts : List Str) : (tupleText ts).length ≤ piled ts + 3 := by
  unfold tupleText
  rw [strLen_append, strLen_append]
  have h1 : (("(" : Str)).length = 1 := rfl
  have h2 : (Str.ofString (if (ts.length == 1) = true then ",)" else ")" : String)).length ≤ 2 := by split <;> decide
  have h3 : (Str.join ", " ts).length ≤ piled ts := by
    by_cases h : ts = []
    · subst h; exact Nat.zero_le _
    · have := join_length_add ts h; omega
  omega
theorem from_le : ∀ (ts : List Str) (k : Nat) (acc : Str), (textFrom k acc ts).length ≤ acc.length + piled ts
  | [], k, acc => by simp [textFrom, piled]
  | t :: r, k, acc => by
    have ih := from_le r (k + 1) (acc ++ (if k > 0 then ", " else "" : String) ++ t)
    have e : (acc ++ (if k > 0 then ", " else "" : String) ++ t).length ≤ acc.length + 2 + t.length := by
      rw [strLen_append, strLen_append]
      have : (Str.ofString (if k > 0 then ", " else "" : String)).length ≤ 2 := by split <;> decide
      omega
    have e2 : piled (t :: r) = (t.length + 2) + piled r := by simp [piled]
    rw [e2]
    show (textFrom (k + 1) (acc ++ (if k > 0 then ", " else "" : String) ++ t) r).length ≤ _
    omega
theorem lst_le (ts : List Str) : (listText ts).length ≤ piled ts + 2 := by
  unfold listText
  rw [strLen_append]
  have := from_le ts 0 "["
  have h1 : (("[" : Str)).length = 1 := rfl
  have h2 : (("]" : Str)).length = 1 := rfl
  omega
theorem shown_len (ds : List PyData) : (PyData.shownAll ds).length = ds.length := by
  induction ds with
  | nil => rfl
  | cons d ds ih => rw [PyData.shownAll, List.length_cons, List.length_cons, ih]
theorem shown_mem {ds : List PyData} {t : Str} (h : t ∈ PyData.shownAll ds) : ∃ d ∈ ds, t = d.shown := by
  induction ds with
  | nil => cases h
  | cons d ds ih =>
    rw [PyData.shownAll] at h
    rcases List.mem_cons.mp h with e | h
    · exact ⟨d, List.mem_cons_self, e⟩
    · obtain ⟨x, hx, e⟩ := ih h
      exact ⟨x, List.mem_cons_of_mem _ hx, e⟩
theorem tuple_shown (ds : List PyData) (c : Nat) (h : ∀ d ∈ ds, d.shown.length ≤ c) : (PyData.tuple ds).shown.length ≤ (c + 2) * ds.length + 3 := by
  rw [PyData.shown]
  have h1 := tup_le (PyData.shownAll ds)
  have h2 := piled_le (PyData.shownAll ds) c fun t ht => by obtain ⟨d, hd, e⟩ := shown_mem ht; rw [e]; exact h d hd
  rw [shown_len] at h2
  omega
theorem list_shown (ds : List PyData) (c : Nat) (h : ∀ d ∈ ds, d.shown.length ≤ c) : (PyData.list ds).shown.length ≤ (c + 2) * ds.length + 2 := by
  rw [PyData.shown]
  have h1 := lst_le (PyData.shownAll ds)
  have h2 := piled_le (PyData.shownAll ds) c fun t ht => by obtain ⟨d, hd, e⟩ := shown_mem ht; rw [e]; exact h d hd
  rw [shown_len] at h2
  omega
theorem int_len0 : ∀ n : Fin 2000, (PyData.shown (.int ((n.val : Int) - 1000))).length ≤ 8 := by decide +kernel
theorem int_len {i : Int} (h : i.natAbs < 1000) : (PyData.shown (.int i)).length ≤ 8 := by
  have := int_len0 ⟨(i + 1000).toNat, by omega⟩
  have e : (((i + 1000).toNat : Nat) : Int) - 1000 = i := by omega
  simp only [e] at this
  exact this
end Lw

set_option maxHeartbeats 1000000
/-! k50: sorted places, their texts, what is in them. -/
namespace Lw
open PySem PySem.Spec PyProof.Rows L2 Dl
open PySem.W (dataLe)
theorem srt_places (l : Fst) : ∃ sp : List Plc, srt l = sp.map pD ∧ sp.length = l.length ∧ ∀ p, p ∈ sp ↔ p ∈ keys l := by
  have hm : ∀ k ∈ ((fsD l).map (·.1)).mergeSort (dataLe false pyK), ∃ p, k = pK p := fun k hk => by
    have := List.mem_mergeSort.mp hk
    obtain ⟨x, hx, rfl⟩ := List.mem_map.mp this
    obtain ⟨e, _, rfl⟩ := List.mem_map.mp hx
    exact ⟨e.1, rfl⟩
  have inv : ∀ L : List NestedKey, (∀ k ∈ L, ∃ p, k = pK p) → ∃ sp : List Plc, L = sp.map pK := fun L => by
    induction L with
    | nil => intro _; exact ⟨[], rfl⟩
    | cons k L ih =>
      intro h
      obtain ⟨p, rfl⟩ := h k List.mem_cons_self
      obtain ⟨sp, e⟩ := ih fun x hx => h x (List.mem_cons_of_mem _ hx)
      exact ⟨p :: sp, by rw [e]; rfl⟩
  obtain ⟨sp, e⟩ := inv _ hm
  have hl : sp.length = l.length := by
    have := congrArg List.length e
    rw [List.length_mergeSort, List.length_map] at this
    simpa [fsD] using this.symm
  refine ⟨sp, ?_, hl, fun p => ?_⟩
  · unfold srt
    rw [e, List.map_map]
    exact List.map_congr_left fun p _ => kD_pK p
  · have h1 : pK p ∈ sp.map pK ↔ pK p ∈ (fsD l).map (·.1) := by rw [← e]; exact List.mem_mergeSort
    constructor
    · intro h
      have := h1.mp (List.mem_map.mpr ⟨p, h, rfl⟩)
      obtain ⟨x, hx, e1⟩ := List.mem_map.mp this
      obtain ⟨y, hy, rfl⟩ := List.mem_map.mp hx
      have : y.1 = p := pK_inj e1
      exact List.mem_map.mpr ⟨y, hy, this⟩
    · intro h
      obtain ⟨y, hy, e1⟩ := List.mem_map.mp h
      have := h1.mpr (List.mem_map.mpr ⟨(pK y.1, wD y.2), List.mem_map.mpr ⟨y, hy, rfl⟩, by rw [e1]⟩)
      obtain ⟨x, hx, e2⟩ := List.mem_map.mp this
      rw [← pK_inj e2]; exact hx
def dP (p : Plc) : PyData := .tuple [.int p.1, .tuple (p.2.map .int)]
def dW (w : Way) : PyData := .tuple (w.map fun (n : Nat) => .int n)
theorem pys_map {α : Type} (M : Mem) (g : α → D) (h : α → PyData) : ∀ (l : List α), (∀ a ∈ l, py M (g a) = some (h a)) → pys M (l.map g) = some (l.map h)
  | [], _ => by simp [pys]
  | a :: l, hh => by
    rw [List.map_cons, pys, hh a List.mem_cons_self, pys_map M g h l fun b hb => hh b (List.mem_cons_of_mem _ hb)]; rfl
theorem py0s_map {α : Type} (g : α → D) (h : α → PyData) : ∀ (l : List α), (∀ a ∈ l, py0 (g a) = some (h a)) → py0s (l.map g) = some (l.map h)
  | [], _ => by simp [py0s]
  | a :: l, hh => by
    rw [List.map_cons, py0s, hh a List.mem_cons_self, py0s_map g h l fun b hb => hh b (List.mem_cons_of_mem _ hb)]; rfl
theorem py_ints (M : Mem) (l : List Int) : pys M (l.map D.int) = some (l.map PyData.int) := pys_map M _ _ l fun _ _ => by rw [py]
theorem py0_ints (l : List Int) : py0s (l.map D.int) = some (l.map PyData.int) := py0s_map _ _ l fun _ _ => by rw [py0]
theorem py_pD (M : Mem) (p : Plc) : py M (pD p) = some (dP p) := by simp [pD, dP, py, pys, py_ints]
theorem py0_pD (p : Plc) : py0 (pD p) = some (dP p) := by simp [pD, dP, py0, py0s, py0_ints]
theorem py_wD (M : Mem) (w : Way) : py M (wD w) = some (dW w) := by
  have := pys_map M (fun (n : Nat) => D.int n) (fun (n : Nat) => PyData.int n) w fun _ _ => by rw [py]
  simp [wD, dW, py, this]
theorem py_places (M : Mem) (sp : List Plc) : py M (.lst (sp.map pD)) = some (.list (sp.map dP)) := by
  have := pys_map M pD dP sp fun p _ => py_pD M p
  simp [py, this]
theorem py_placesA {M : Mem} {k : Nat} {sp : List Plc} (h : M[k]? = some (some (.lst (sp.map pD)))) : py M (.adr k) = some (.list (sp.map dP)) := by
  have := py0s_map pD dP sp fun p _ => py0_pD p
  simp [py, h, this]
theorem eqv_ints : ∀ l m : List Int, PyData.eqvAll (l.map .int) (m.map .int) = decide (l = m)
  | [], [] => by simp [PyData.eqvAll]
  | [], _ :: _ => by simp [PyData.eqvAll]
  | _ :: _, [] => by simp [PyData.eqvAll]
  | a :: l, b :: m => by
    rw [List.map_cons, List.map_cons, PyData.eqvAll, eqv_ints l m, PyData.eqv]
    by_cases h : a = b
    · subst h; simp
    · simp [h]
theorem eqv_dP (p q : Plc) : PyData.eqv (dP p) (dP q) = decide (p = q) := by
  obtain ⟨a, b⟩ := p
  obtain ⟨c, d⟩ := q
  simp [dP, PyData.eqv, PyData.eqvAll, eqv_ints]
  by_cases h : a = c <;> simp [h]
theorem lay_ints : ∀ l : List Int, PyData.canLayAll0 (l.map .int) = true
  | [] => rfl
  | a :: l => by rw [List.map_cons, PyData.canLayAll0, lay_ints l]; rfl
theorem shaped_dP (p : Plc) : SeqAt.shaped (dP p) = true := by
  simp [SeqAt.shaped, dP, PyData.canLay0, PyData.canLayAll0, lay_ints, PyData.depth, PyData.depthAll, depth_ints]
theorem shaped_places (sp : List Plc) : SeqAt.shaped (.list (sp.map dP)) = true := by
  have h1 : PyData.canLayAll0 (sp.map dP) = true := by
    induction sp with
    | nil => rfl
    | cons p sp ih =>
      rw [List.map_cons, PyData.canLayAll0, ih]
      simp [dP, PyData.canLay0, PyData.canLayAll0, lay_ints]
  have h2 : PyData.depthAll (sp.map dP) ≤ 2 := by
    induction sp with
    | nil => simp [PyData.depthAll]
    | cons p sp ih =>
      have ih := ih (by
        rw [List.map_cons, PyData.canLayAll0, Bool.and_eq_true] at h1
        exact h1.2)
      rw [List.map_cons, PyData.depthAll]
      have : (dP p).depth = 2 := by simp [dP, PyData.depth, PyData.depthAll, depth_ints]
      omega
  simp [SeqAt.shaped, PyData.canLay0, h1, PyData.depth]
  omega
theorem inL_places {M : Mem} {k : Nat} {sp : List Plc} (h : M[k]? = some (some (.lst (sp.map pD)))) (g : Bool → Bool) (q : Plc) : kInA g (pD q) (.adr k) M = .ok (.bl (g (decide (q ∈ sp)))) M := by
  have e : (sp.map dP).any (fun z => PyData.eqv z (dP q)) = decide (q ∈ sp) := by
    rw [List.any_map]
    have : ((fun z => PyData.eqv z (dP q)) ∘ dP) = fun p => decide (p = q) := by funext p; exact eqv_dP p q
    rw [this]
    by_cases hq : q ∈ sp
    · rw [decide_eq_true hq]
      exact List.any_eq_true.mpr ⟨q, hq, by simp⟩
    · rw [decide_eq_false hq]
      exact List.any_eq_false.mpr fun x hx => by simp; exact fun e => hq (by rw [← e]; exact hx)
  have hd : dicAt M (.adr k) = none := by simp [h]
  unfold kInA
  rw [hd]
  simp only [kInL, py_pD, py_placesA h, shaped_dP, shaped_places, Bool.and_self, if_true, e]
theorem ne_pD (p : Plc) (M : Mem) : kNeA (pD p) (pD p) M = .ok (.bl false) M := by
  have : kSc (pD p) (pD p) = none := rfl
  have e : kEqB (pD p) (pD p) M = some true := by
    simp only [kEqB, py_pD, pEq, shaped_dP, Bool.and_self, if_true, eqv_dP]
    simp
  unfold kNeA
  rw [this]
  simp only [kNe, e]
  rfl
theorem shaped_dW (w : Way) : SeqAt.shaped (dW w) = true := by
  have e : (w.map fun (n : Nat) => PyData.int n) = (w.map fun (n : Nat) => (n : Int)).map PyData.int := by rw [List.map_map]; rfl
  unfold dW
  rw [e]
  have h : ∀ l : List Int, SeqAt.shaped (.tuple (l.map .int)) = true := fun l => by simp [SeqAt.shaped, PyData.canLay0, lay_ints, PyData.depth, depth_ints]
  exact h _
theorem ne_wD (w : Way) (M : Mem) : kNeA (wD w) (wD w) M = .ok (.bl false) M := by
  have : kSc (wD w) (wD w) = none := rfl
  have e0 : (w.map fun (n : Nat) => PyData.int n) = (w.map fun (n : Nat) => (n : Int)).map PyData.int := by rw [List.map_map]; rfl
  have e : kEqB (wD w) (wD w) M = some true := by
    simp only [kEqB, py_wD, pEq, shaped_dW, Bool.and_self, if_true]
    unfold dW
    rw [e0, PyData.eqv, eqv_ints]
    simp
  unfold kNeA
  rw [this]
  simp only [kNe, e]
  rfl
/-! texts -/
structure Shw (d : PyData) (c : Nat) : Prop where
  s : sm d = true
  dp : d.depth ≤ 10
  len : d.shown.length ≤ c
theorem shw_ints (l : List Int) (h : ∀ x ∈ l, x.natAbs < 1000) (hl : l.length ≤ 20) : Shw (.tuple (l.map .int)) 300 := by
  refine ⟨?_, by simp [PyData.depth, depth_ints], ?_⟩
  · rw [sm]; exact sms_map _ l fun x hx => by rw [sm]; exact decide_eq_true (h x hx)
  · have := tuple_shown (l.map .int) 8 fun d hd => by obtain ⟨x, hx, rfl⟩ := List.mem_map.mp hd; exact int_len (h x hx)
    rw [List.length_map] at this
    omega
theorem shw_dP {p : Plc} (h1 : p.1.natAbs < 1000) (h : ∀ x ∈ p.2, x.natAbs < 1000) (hl : p.2.length ≤ 3) : Shw (dP p) 700 := by
  have s := shw_ints p.2 h (by omega)
  refine ⟨?_, by simp [dP, PyData.depth, PyData.depthAll, depth_ints], ?_⟩
  · have := s.s
    unfold dP
    rw [sm, sms, sms, sms, this, sm]
    simp [h1]
  · have := tuple_shown [.int p.1, .tuple (p.2.map .int)] 300 fun d hd => by
      rcases List.mem_cons.mp hd with e | hd
      · subst e; have := int_len h1; omega
      · rw [List.mem_singleton.mp hd]; exact s.len
    unfold dP
    simp only [List.length_cons, List.length_nil] at this
    omega
theorem shw_dW {w : Way} (h : ∀ i ∈ w, i < 1000) (hl : w.length ≤ 20) : Shw (dW w) 300 := by
  have e : (w.map fun (n : Nat) => PyData.int n) = (w.map fun (n : Nat) => (n : Int)).map PyData.int := by rw [List.map_map]; rfl
  unfold dW
  rw [e]
  refine shw_ints _ (fun x hx => ?_) (by rw [List.length_map]; exact hl)
  obtain ⟨i, hi, rfl⟩ := List.mem_map.mp hx
  have := h i hi
  omega
theorem depthAll_le : ∀ (ds : List PyData) (n : Nat), (∀ d ∈ ds, d.depth ≤ n) → PyData.depthAll ds ≤ n
  | [], n, _ => by simp [PyData.depthAll]
  | d :: ds, n, h => by
    have h1 := h d List.mem_cons_self
    have h2 := depthAll_le ds n fun x hx => h x (List.mem_cons_of_mem _ hx)
    rw [PyData.depthAll]; omega
theorem shw_list {ds : List PyData} {c : Nat} (h : ∀ d ∈ ds, Shw d c) (hd : ∀ d ∈ ds, d.depth ≤ 9) : sm (.list ds) = true ∧ (PyData.list ds).depth ≤ 10 ∧ (PyData.list ds).shown.length ≤ (c + 2) * ds.length + 2 := by
  refine ⟨?_, ?_, list_shown ds c fun d hd => (h d hd).len⟩
  · rw [sm]
    have := sms_map (fun d : PyData => d) ds fun d hd => (h d hd).s
    simpa using this
  · rw [PyData.depth]
    have := depthAll_le ds 9 hd
    omega
theorem kRepr_of {M : Mem} {x : D} {d : PyData} (hx : kRepr.isRef x = true) (hp : py M x = some d) (h1 : sm d = true) (h2 : d.depth ≤ 40) (h3 : d.shown.length ≤ sizeLine) : kRepr [x] M = .ok (.str d.shown) M := by
  obtain ⟨a, b⟩ := sm_ok d h1
  simp only [kRepr, hx, hp]
  simp [a, b, h2, h3]
end Lw

set_option maxHeartbeats 2000000
/-! k50: the law's first loop. -/
namespace Lw
open PySem PySem.Spec PyProof.Rows L2 Dl
abbrev tt : Nat → Plc → Bool := fun _ _ => true
theorem ins_loop {n k : Nat} {f : Frm} {p : Plc} {s : Str} {M0 : Mem} {x5 x6 x8 x9 x11 x12 x13 x14 x15 : Option D} : ∀ (R : List Ent) (F : Fst) (z10 z7 : Option D) (M : Mem), M[k]? = some (some (.dic (fsD F))) → (insL F R).length ≤ sizeLine →
    ∃ y10 y7, loopF M0 [] (.tp [10, 7]) (fIf (tBl (e2 (kInA (!·)) (eV 7) (eV 4))) (fAsg (eV 10) (gSb kSetA (eV 4) (eV 7))) fN) (R.map eD) [some (.adr n), some f.d, some (pD p), some (.str s), some (.adr k), x5, x6, z7, x8, x9, z10, x11, x12, x13, x14, x15] M =
      .ok (.nx [some (.adr n), some f.d, some (pD p), some (.str s), some (.adr k), x5, x6, y7, x8, x9, y10, x11, x12, x13, x14, x15]) (M.set k (some (.dic (fsD (insL F R)))))
  | [], F, z10, z7, M, hk, _ => by
    refine ⟨z10, z7, ?_⟩
    have hs : M.set k (some (.dic (fsD F))) = M := by
      refine List.ext_getElem? fun m => ?_
      by_cases hm : k = m
      · subst hm; rw [List.getElem?_set_self (lt_of_some hk), hk]
      · rw [List.getElem?_set_ne hm]
    show _ = Res.ok _ (M.set k (some (.dic (fsD F))))
    rw [hs]
    simp
  | (w, q) :: R, F, z10, z7, M, hk, hl => by
    have e0 : insL F ((w, q) :: R) = insL (ins F (w, q)) R := rfl
    rw [List.map_cons, loop_cons (e1 := [some (.adr n), some f.d, some (pD p), some (.str s), some (.adr k), x5, x6, some (pD q), x8, x9, some (wD w), x11, x12, x13, x14, x15]) rfl]
    have hb : (fIf (tBl (e2 (kInA (!·)) (eV 7) (eV 4))) (fAsg (eV 10) (gSb kSetA (eV 4) (eV 7))) fN) [some (.adr n), some f.d, some (pD p), some (.str s), some (.adr k), x5, x6, some (pD q), x8, x9, some (wD w), x11, x12, x13, x14, x15] M =
        .ok (.nx [some (.adr n), some f.d, some (pD p), some (.str s), some (.adr k), x5, x6, some (pD q), x8, x9, some (wD w), x11, x12, x13, x14, x15]) (M.set k (some (.dic (fsD (ins F (w, q)))))) := by
      cases hq : look F q with
      | some w' =>
        have e1 : ins F (w, q) = F := by simp [ins, hq]
        have hs : M.set k (some (.dic (fsD F))) = M := by
          refine List.ext_getElem? fun m => ?_
          by_cases hm : k = m
          · subst hm; rw [List.getElem?_set_self (lt_of_some hk), hk]
          · rw [List.getElem?_set_ne hm]
        rw [e1, hs]
        simp [inA_dic hk, hq]
      | none =>
        have e1 : ins F (w, q) = F ++ [(q, w)] := by simp [ins, hq]
        have hlen : F.length < sizeLine := by
          rw [e0, e1, insL_new] at hl
          simp at hl; omega
        rw [e1]
        simp [inA_dic hk, hq, -kSetA, setA_dic hk w hq hlen]
    rw [hb]
    simp only [bind_ok]
    have hk2 : (M.set k (some (.dic (fsD (ins F (w, q))))))[k]? = some (some (.dic (fsD (ins F (w, q))))) := List.getElem?_set_self (lt_of_some hk)
    obtain ⟨y10, y7, ih⟩ := ins_loop (M0 := M0) (n := n) (f := f) (p := p) (s := s) (x5 := x5) (x6 := x6) (x8 := x8) (x9 := x9) (x11 := x11) (x12 := x12) (x13 := x13) (x14 := x14) (x15 := x15) R (ins F (w, q)) (some (wD w)) (some (pD q)) _ hk2 (by rw [← e0]; exact hl)
    refine ⟨y10, y7, ?_⟩
    rw [ih, set_set_]
    rfl
/-- the sorted places of a level, as text and data -/
structure Srt (f : Frm) (p : Plc) (t : Nat) (sp : List Plc) : Prop where
  e : srt (BG f p tt t) = sp.map pD
  len : sp.length = (BG f p tt t).length
  mem : ∀ q, q ∈ sp ↔ q ∈ keys (BG f p tt t)
theorem come2 {f : Frm} (hf : f.Ok) {p : Plc} (hp : Gp f p) (hm : ∀ x ∈ p.2, x ≤ 10) {t : Nat} (ht : t ≤ 12) (M : Mem) :
    ∃ sp k M', F_come_within [f.d, pD p, .int (t : Nat)] M = .ok (.adr k) M' ∧ M.length ≤ k ∧ M'[k]? = some (some (.lst (sp.map pD))) ∧ Kept [] M M' ∧ Srt f p t sp := by
  obtain ⟨sp, e1, e2, e3⟩ := srt_places (BG f p tt t)
  obtain ⟨k, M', h1, h2, h3, h4⟩ := come_ok hf hp (fun x hx => by have := hm x hx; omega) ht (fun s hs => bfs_ok hf hp hm (by omega)) M
  rw [bfs_fst, e1] at h3
  exact ⟨sp, k, M', h1, h2, h3, h4, e1, e2, e3⟩
theorem Srt.same {f : Frm} {p : Plc} {t : Nat} {sp sp' : List Plc} (h : Srt f p t sp) (h' : Srt f p t sp') : sp.map pD = sp'.map pD := h.e.symm.trans h'.e
theorem small_place {f : Frm} (hf : f.Ok) {p : Plc} (hp : Gp f p) (hm : ∀ x ∈ p.2, x ≤ 10) {t : Nat} (ht : t ≤ 12) {q : Plc} (hq : q ∈ keys (BG f p tt t)) : Shw (dP q) 700 ∧ Gp f q := by
  obtain ⟨x, hx, rfl⟩ := List.mem_map.mp hq
  obtain ⟨s, hs, h⟩ := BG_mem (w := x.2) (q := x.1) hx
  have r := runsG_ok hf hp hm s _ h
  have gp : Gp f x.1 := r.gp
  have le : ∀ y ∈ x.1.2, y ≤ 10 + 9 * (s : Int) := r.le
  refine ⟨shw_dP (by have := gp.p0; have := gp.p1; have := hf.S6; omega) (fun y hy => ?_) (by have := gp.len; have := hf.C3; omega), gp⟩
  have h1 := gp.nn y hy
  have h2 := le y hy
  have : (s : Int) ≤ 12 := by omega
  omega
theorem B_small {f : Frm} {p : Plc} (h4 : f.ss.length ≤ 4) {t : Nat} (ht : t ≤ 4) : (BG f p tt t).length ≤ 341 := by
  have : ∀ t, (BG f p tt t).length ≤ ((List.range (t + 1)).map fun s => 4 ^ s).sum := fun t => by
    induction t with
    | zero => simp [BG]
    | succ t ih =>
      have e : BG f p tt (t + 1) = BG f p tt t ++ newE (BG f p tt t) (runsG f p tt (t + 1)) := insL_new _ _
      have hn : ∀ (R : List Ent) (F : Fst), (newE F R).length ≤ R.length := fun R => by
        induction R with
        | nil => intro F; simp [newE]
        | cons e R ih =>
          intro F
          rw [newE]
          split
          · have := ih F; simp; omega
          · have := ih (F ++ [(e.2, e.1)]); simp; omega
      have h1 := hn (runsG f p tt (t + 1)) (BG f p tt t)
      have h2 := runs_len (f := f) (p := p) h4 (t + 1)
      have e3 : ((List.range (t + 1 + 1)).map fun s => 4 ^ s).sum = ((List.range (t + 1)).map fun s => 4 ^ s).sum + 4 ^ (t + 1) := by
        rw [List.range_succ, List.map_append, List.sum_append]; simp
      rw [e, List.length_append, e3]
      have h3 := Nat.le_trans h1 h2
      exact Nat.add_le_add ih h3
  have h := this t
  have m : ((List.range (t + 1)).map fun s => 4 ^ s).sum ≤ 341 := by
    have : t = 0 ∨ t = 1 ∨ t = 2 ∨ t = 3 ∨ t = 4 := by omega
    rcases this with rfl | rfl | rfl | rfl | rfl <;> decide
  omega
theorem srt_text {f : Frm} (hf : f.Ok) (h4 : f.ss.length ≤ 4) {p : Plc} (hp : Gp f p) (hm : ∀ x ∈ p.2, x ≤ 10) {t : Nat} (ht : t ≤ 4) {sp : List Plc} (h : Srt f p t sp) :
    sm (.list [.list (sp.map dP), .list (sp.map dP)]) = true ∧ (PyData.list [.list (sp.map dP), .list (sp.map dP)]).depth ≤ 40 ∧ (PyData.list [.list (sp.map dP), .list (sp.map dP)]).shown.length ≤ sizeLine := by
  have hl : sp.length ≤ 341 := by rw [h.len]; exact B_small h4 ht
  obtain ⟨a1, a2, a3⟩ := shw_list (ds := sp.map dP) (c := 700) (fun d hd => by
    obtain ⟨q, hq, rfl⟩ := List.mem_map.mp hd
    exact (small_place hf hp hm (by omega) ((h.mem q).mp hq)).1) (fun d hd => by
    obtain ⟨q, hq, rfl⟩ := List.mem_map.mp hd
    simp [dP, PyData.depth, PyData.depthAll, depth_ints])
  rw [List.length_map] at a3
  refine ⟨by rw [sm, sms, sms, sms, a1]; rfl, ?_, ?_⟩
  · rw [PyData.depth]
    have := depthAll_le [.list (sp.map dP), .list (sp.map dP)] 10 (fun d hd => by
      rcases List.mem_cons.mp hd with e | hd
      · rw [e]; exact a2
      · rw [List.mem_singleton.mp hd]; exact a2)
    omega
  · have := list_shown [.list (sp.map dP), .list (sp.map dP)] 300000 (fun d hd => by
      have : (PyData.list (sp.map dP)).shown.length ≤ 300000 := by omega
      rcases List.mem_cons.mp hd with e | hd
      · rw [e]; exact this
      · rw [List.mem_singleton.mp hd]; exact this)
    simp only [List.length_cons, List.length_nil] at this
    rw [sizeLine_eq]; omega
/-- one level's turn -/
def lvlB : Fs := (fSq (fFor (fItA (eV 6)) (.tp [10, 7]) (fIf (tBl (e2 (kInA (!·)) (eV 7) (eV 4))) (fAsg (eV 10) (gSb kSetA (eV 4) (eV 7))) fN)) (fSq (fSet 11 (fV (fSortA (aC (eV 4) aN)))) (fSq (fIf (tBl (e2 kNeA (eB kRepr (aC (fV (aC (eF 3 0 [0, 1, 2] F_come_within (aC (eV 1) (aC (eV 2) (aC (eV 5) aN))) aN) (aC (eF 0 3 [2, 1, 0] F_come_within aN (aC (eV 5) (aC (eV 2) (aC (eV 1) aN)))) aN))) aN)) (eB kRepr (aC (fV (aC (eV 11) (aC (eV 11) aN))) aN)))) (fRet (eC (.bl false))) fN) (fDrop (eM kAppend (eF 3 0 [0, 1, 2] F_come_within (aC (eV 1) (aC (eV 2) (aC (eV 5) aN))) aN) (aC (eC .non) aN))))))
theorem lvl_turn {f : Frm} (hf : f.Ok) (h4 : f.ss.length ≤ 4) {p : Plc} (hp : Gp f p) (hm : ∀ x ∈ p.2, x ≤ 10) {n k : Nat} {s : Str} {x7 x8 x9 x10 x11 x12 x13 x14 x15 : Option D} {t : Nat} (ht : t ≤ 4) {M : Mem} (hk : M[k]? = some (some (.dic (fsD (prevB f p tt t))))) :
    ∃ y7 y10 y11 M', lvlB [some (.adr n), some f.d, some (pD p), some (.str s), some (.adr k), some (.int (t : Nat)), some (.lst ((runsG f p tt t).map eD)), x7, x8, x9, x10, x11, x12, x13, x14, x15] M = .ok (.nx [some (.adr n), some f.d, some (pD p), some (.str s), some (.adr k), some (.int (t : Nat)), some (.lst ((runsG f p tt t).map eD)), y7, x8, x9, y10, y11, x12, x13, x14, x15]) M' ∧
      M'[k]? = some (some (.dic (fsD (BG f p tt t)))) ∧ Kept [k] M M' := by
  have hB : insL (prevB f p tt t) (runsG f p tt t) = BG f p tt t := (BG_eq t).symm
  have hBl : (BG f p tt t).length ≤ sizeLine := by have := B_small (p := p) h4 ht; rw [sizeLine_eq]; omega
  obtain ⟨y10, y7, h1⟩ := ins_loop (M0 := M) (n := n) (k := k) (f := f) (p := p) (s := s) (x5 := some (.int (t : Nat))) (x6 := some (.lst ((runsG f p tt t).map eD))) (x8 := x8) (x9 := x9) (x11 := x11) (x12 := x12) (x13 := x13) (x14 := x14) (x15 := x15) (runsG f p tt t) (prevB f p tt t) x10 x7 M hk (by rw [hB]; exact hBl)
  rw [hB] at h1
  let M1 : Mem := M.set k (some (.dic (fsD (BG f p tt t))))
  have hk1 : M1[k]? = some (some (.dic (fsD (BG f p tt t)))) := List.getElem?_set_self (lt_of_some hk)
  obtain ⟨sp, ka, Ma, a1, a2, a3, a4, a5⟩ := come2 hf hp hm (t := t) (by omega) M1
  obtain ⟨sp', kb, Mb, b1, b2, b3, b4, b5⟩ := come2 hf hp hm (t := t) (by omega) Ma
  obtain ⟨sp'', kc, Mc, c1, c2, c3, c4, c5⟩ := come2 hf hp hm (t := t) (by omega) Mb
  have ka3 : Mb[ka]? = some (some (.lst (sp.map pD))) := b4.at a3 (by simp)
  have b3' : Mb[kb]? = some (some (.lst (sp.map pD))) := by rw [b3, b5.same a5]
  obtain ⟨t1, t2, t3⟩ := srt_text hf h4 hp hm ht a5
  have r1 : kRepr [.lst [.adr ka, .adr kb]] Mb = .ok (.str (PyData.list [.list (sp.map dP), .list (sp.map dP)]).shown) Mb := kRepr_of rfl (by rw [py, pys, pys, pys, py_placesA ka3, py_placesA b3']; rfl) t1 t2 t3
  have r2 : kRepr [.lst [.lst (srt (BG f p tt t)), .lst (srt (BG f p tt t))]] Mb = .ok (.str (PyData.list [.list (sp.map dP), .list (sp.map dP)]).shown) Mb := by
    rw [a5.e]
    exact kRepr_of rfl (by rw [py, pys, pys, pys, py_places]; rfl) t1 t2 t3
  have hs := kSortN_ok hk1
  have kk : Mc[k]? = some (some (.dic (fsD (BG f p tt t)))) := ((a4.trans b4).trans c4).at hk1 (by simp)
  have hlen : (sp''.map pD).length < sizeLine := by rw [List.length_map, c5.len]; have := B_small (p := p) h4 ht; rw [sizeLine_eq]; omega
  have hne : kc ≠ k := by
    have := lt_of_some hk1
    have := (a4.trans b4).1
    omega
  refine ⟨y7, y10, some (.lst (srt (BG f p tt t))), Mc.set kc (some (.lst (sp''.map pD ++ [.non]))), ?_, by rw [List.getElem?_set_ne hne]; exact kk, ?_⟩
  · have e6 : (fFor (fItA (eV 6)) (.tp [10, 7]) (fIf (tBl (e2 (kInA (!·)) (eV 7) (eV 4))) (fAsg (eV 10) (gSb kSetA (eV 4) (eV 7))) fN)) [some (.adr n), some f.d, some (pD p), some (.str s), some (.adr k), some (.int (t : Nat)), some (.lst ((runsG f p tt t).map eD)), x7, x8, x9, x10, x11, x12, x13, x14, x15] M = .ok (.nx [some (.adr n), some f.d, some (pD p), some (.str s), some (.adr k), some (.int (t : Nat)), some (.lst ((runsG f p tt t).map eD)), y7, x8, x9, y10, x11, x12, x13, x14, x15]) M1 := h1
    refine (fSq_nx e6).trans ?_
    refine (fSq_nx (M1 := M1) (e1 := [some (.adr n), some f.d, some (pD p), some (.str s), some (.adr k), some (.int (t : Nat)), some (.lst ((runsG f p tt t).map eD)), y7, x8, x9, y10, some (.lst (srt (BG f p tt t))), x12, x13, x14, x15]) ?_).trans ?_
    · simp [fSortA, soA, hk1, hs]
    refine (fSq_nx (M1 := Mb) (e1 := [some (.adr n), some f.d, some (pD p), some (.str s), some (.adr k), some (.int (t : Nat)), some (.lst ((runsG f p tt t).map eD)), y7, x8, x9, y10, some (.lst (srt (BG f p tt t))), x12, x13, x14, x15]) ?_).trans ?_
    · simp [a1, b1, r1, r2]
    · simp [c1, c3, hlen]
      simpa using hlen
  · refine ⟨by have := ((a4.trans b4).trans c4).1; simpa [M1] using this, fun m hm hn => ?_⟩
    have hk' : k ≠ m := fun e => hn (by simp [e])
    have hkc : kc ≠ m := by
      have := (a4.trans b4).1
      have e : M1.length = M.length := by simp [M1]
      omega
    rw [List.getElem?_set_ne hkc, ((a4.trans b4).trans c4).2 m (by simpa [M1] using hm) (by simp)]
    exact List.getElem?_set_ne hk'
end Lw

set_option maxHeartbeats 2000000
/-! k50: the law's loops over told runs. -/
namespace Lw
open PySem PySem.Spec PyProof.Rows L2 Dl
theorem look12 {f : Frm} {p : Plc} {q : Plc} {w : Way} (h : look (BG f p tt 4) q = some w) : look (BG f p tt 12) q = some w := by
  obtain ⟨m, e⟩ := BG_grow (f := f) (p := p) (gd := tt) (show 4 ≤ 12 by decide)
  rw [e]; exact look_app h
theorem run_told {f : Frm} (hf : f.Ok) {p : Plc} (hp : Gp f p) (hm : ∀ x ∈ p.2, x ≤ 10) {q : Plc} (hq : Gp f q) (M : Mem) :
    ∃ M', F_first_run [f.d, pD p, pD q] M = .ok (((look (BG f p tt 12) q).map wD).getD .non) M' ∧ Kept [] M M' := by
  obtain ⟨h1, h2⟩ := first_eq (goal := q) hf hp hm
  obtain ⟨M', e, k⟩ := frun_ok hf hp (fun x hx => by have := hm x hx; omega) hq h1 M
  rw [h2] at e
  exact ⟨M', e, k⟩
theorem way_facts {f : Frm} (hf : f.Ok) {p : Plc} (hp : Gp f p) (hm : ∀ x ∈ p.2, x ≤ 10) {q : Plc} {w : Way} {t : Nat} (h : look (BG f p tt t) q = some w) : w.length ≤ t ∧ VR f p w q ∧ q ∈ keys (BG f p tt w.length) := by
  obtain ⟨s, hs, hr⟩ := BG_mem (look_mem h)
  have r := (runsG_ok hf hp hm s _ hr).len
  have r' : w.length = s := r
  have v := runs_vr s _ hr
  refine ⟨by omega, v, ?_⟩
  rw [r']
  exact BG_run hr
theorem way_text {f : Frm} (hf : f.Ok) {p q : Plc} {w : Way} (h : VR f p w q) (hw : w.length ≤ 20) : sm (.list [dW w, dW w]) = true ∧ (PyData.list [dW w, dW w]).depth ≤ 40 ∧ (PyData.list [dW w, dW w]).shown.length ≤ sizeLine := by
  have s := shw_dW (w := w) (fun i hi => by have := h.lt i hi; have := hf.n12; omega) hw
  have dp : (dW w).depth ≤ 9 := by
    have e : (w.map fun (n : Nat) => PyData.int n) = (w.map fun (n : Nat) => (n : Int)).map PyData.int := by rw [List.map_map]; rfl
    unfold dW
    rw [e, PyData.depth, depth_ints]
    decide
  obtain ⟨a, b, c⟩ := shw_list (ds := [dW w, dW w]) (c := 300) (fun d hd => by
    rcases List.mem_cons.mp hd with e | hd
    · rw [e]; exact s
    · rw [List.mem_singleton.mp hd]; exact s) (fun d hd => by
    rcases List.mem_cons.mp hd with e | hd
    · rw [e]; exact dp
    · rw [List.mem_singleton.mp hd]; exact dp)
  refine ⟨a, by omega, ?_⟩
  simp only [List.length_cons, List.length_nil] at c
  rw [sizeLine_eq]; omega
def keyB : Fs := (fIf (tBl (e2 kNeA (eB kRepr (aC (fV (aC (eF 3 0 [0, 1, 2] F_first_run (aC (eV 1) (aC (eV 2) (aC (eV 7) aN))) aN) (aC (eF 0 3 [2, 1, 0] F_first_run aN (aC (eV 7) (aC (eV 2) (aC (eV 1) aN)))) aN))) aN)) (eB kRepr (aC (e2 kMulA (fV (aC (e2 kIxA (eV 4) (eV 7)) aN)) (eC (.int 2))) aN)))) (fRet (eC (.bl false))) fN)
theorem key_turn {f : Frm} (hf : f.Ok) (h4 : f.ss.length ≤ 4) {p : Plc} (hp : Gp f p) (hm : ∀ x ∈ p.2, x ≤ 10) {n k : Nat} {s : Str} {x5 x6 x8 x9 x10 x11 x12 x13 x14 x15 : Option D} {q : Plc} (hq : q ∈ keys (BG f p tt 4)) {M : Mem} (hk : M[k]? = some (some (.lck (fsD (BG f p tt 4))))) :
    ∃ M', keyB [some (.adr n), some f.d, some (pD p), some (.str s), some (.adr k), x5, x6, some (pD q), x8, x9, x10, x11, x12, x13, x14, x15] M = .ok (.nx [some (.adr n), some f.d, some (pD p), some (.str s), some (.adr k), x5, x6, some (pD q), x8, x9, x10, x11, x12, x13, x14, x15]) M' ∧ Kept [] M M' := by
  obtain ⟨w, hw⟩ := Option.isSome_iff_exists.mp (look_isSome.mpr hq)
  obtain ⟨hl, hv, _⟩ := way_facts hf hp hm hw
  have gq := (small_place hf hp hm (by decide) hq).2
  obtain ⟨M1, a1, a2⟩ := run_told hf hp hm gq M
  obtain ⟨M2, b1, b2⟩ := run_told hf hp hm gq M1
  rw [look12 hw] at a1 b1
  have hk2 : M2[k]? = some (some (.lck (fsD (BG f p tt 4)))) := (a2.trans b2).at hk (by simp)
  obtain ⟨t1, t2, t3⟩ := way_text hf hv (by omega)
  have r : kRepr [.lst [wD w, wD w]] M2 = .ok (.str (PyData.list [dW w, dW w]).shown) M2 := kRepr_of rfl (by rw [py, pys, pys, pys, py_wD]; rfl) t1 t2 t3
  have ix := ixA_lck hk2 hw
  have hs : 2 ≤ sizeLine := by decide
  have mu : kMulA (.lst [wD w]) (.int 2) M2 = .ok (.lst [wD w, wD w]) M2 := by
    simp only [kMulA, asL, kRep, List.length_cons, List.length_nil]
    rw [if_pos ⟨by decide, by decide, by show 1 * 2 ≤ sizeLine; decide⟩]
    rfl
  refine ⟨M2, ?_, a2.trans b2⟩
  simp only [Option.map_some, Option.getD_some] at a1 b1
  simp [keyB, a1, b1, r, -kIxA, ix, -kMulA, mu]
def goalB : Fs := (fSq (fSet 12 (eTup (aC (eF 2 0 [0, 1] F__law_draw (aC (eV 0) (aC (e2 kIxA (eV 1) (eC (.int 1))) aN)) aN) (aC (eF 3 0 [0, 1, 2] F__law_row (aC (eV 0) (aC (e2 kIxA (eV 1) (eC (.int 2))) (aC (eC (.int 6)) aN))) aN) aN)))) (fSq (fSet 13 (eF 3 0 [0, 1, 2] F_first_run (aC (eV 1) (aC (eV 2) (aC (eV 12) aN))) aN)) (fSq (fIf (tOrF (tAndF (tBl (e2 (kInA id) (eV 12) (eV 4))) (tBl (e2 kNeA (eV 13) (e2 kIxA (eV 4) (eV 12))))) (tAndF (tBl (e2 kIsNot (eV 13) (eC .non))) (tBl (e2 kNeA (e2 kIxA (eF 3 0 [0, 1, 2] F_run_places (aC (eV 1) (aC (eV 2) (aC (eV 13) aN))) aN) (e1 kNeg (eC (.int 1)))) (eV 12))))) (fRet (eC (.bl false))) fN) (fIf (tOrF (tAndF (tBl (e2 kIsNot (eV 13) (eC .non))) (tAndF (tBl (e2 (kInA (!·)) (eV 12) (eV 4))) (tBl (e2 kLt (eB kLen (aC (eV 13) aN)) (eC (.int 5)))))) (tAndF (tBl (e2 kIs (eV 13) (eC .non))) (tBl (e2 (kInA id) (eV 12) (eF 3 0 [0, 1, 2] F_come_within (aC (eV 1) (aC (eV 2) (aC (eC (.int 12)) aN))) aN))))) (fRet (eC (.bl false))) fN))))
theorem goal_turn {f : Frm} (hf : f.Ok) (h4 : f.ss.length ≤ 4) {p : Plc} (hp : Gp f p) (hm : ∀ x ∈ p.2, x ≤ 10) {n k : Nat} {s : Str} {x5 x6 x7 x8 x9 x10 x11 x12 x13 x14 x15 : Option D} {M : Mem} (hk : M[k]? = some (some (.lck (fsD (BG f p tt 4))))) (hnk : n ≠ k) (hn : Pot M n) :
    ∃ y12 y13 M', goalB [some (.adr n), some f.d, some (pD p), some (.str s), some (.adr k), x5, x6, x7, x8, x9, x10, x11, x12, x13, x14, x15] M = .ok (.nx [some (.adr n), some f.d, some (pD p), some (.str s), some (.adr k), x5, x6, x7, x8, x9, x10, x11, y12, y13, x14, x15]) M' ∧ Kept [n] M M' ∧ Pot M' n := by
  have hS := hf.S1; have hS6 := hf.S6; have hC := hf.C1; have hC3 := hf.C3
  obtain ⟨d, M1, a1, a2, a3, a4, a5⟩ := draw_ok (many := f.S) hn (by omega) (by omega)
  obtain ⟨row, M2, b1, b2, b3, b4, b5⟩ := row_draw (k := f.C.toNat) (most := 6) a4 (by omega) (by decide) (by decide)
  have eC : ((f.C.toNat : Nat) : Int) = f.C := by omega
  rw [eC] at b1
  let q : Plc := (d, row)
  have gq : Gp f q := ⟨a2, a3, by show (row.length : Int) = f.C; omega, fun x hx => (b3 x hx).1⟩
  have hk2 : M2[k]? = some (some (.lck (fsD (BG f p tt 4)))) := (a5.trans b5).at hk (by simp [Ne.symm hnk])
  obtain ⟨M3, c1, c2⟩ := run_told hf hp hm gq M2
  have hk3 := c2.at hk2 (by simp)
  have pot3 : ∀ {M' : Mem}, Kept [] M2 M' → Pot M' n := fun {M'} kk => by
    obtain ⟨a, b, e, r⟩ := b4
    exact ⟨a, b, kk.at e (by simp), r⟩
  have wid : ∀ {M' : Mem}, Kept [] M2 M' → Kept [n] M M' := fun {M'} kk => (a5.trans b5).trans ⟨kk.1, fun m hm _ => kk.2 m hm (by simp)⟩
  have first : ∀ X, (fSet 12 (eTup (aC (eF 2 0 [0, 1] F__law_draw (aC (eV 0) (aC (e2 kIxA (eV 1) (Dl.eC (.int 1))) aN)) aN) (aC (eF 3 0 [0, 1, 2] F__law_row (aC (eV 0) (aC (e2 kIxA (eV 1) (Dl.eC (.int 2))) (aC (Dl.eC (.int 6)) aN))) aN) aN)))) [some (.adr n), some f.d, some (pD p), some (.str s), some (.adr k), x5, x6, x7, x8, x9, x10, x11, x12, X, x14, x15] M = .ok (.nx [some (.adr n), some f.d, some (pD p), some (.str s), some (.adr k), x5, x6, x7, x8, x9, x10, x11, some (pD q), X, x14, x15]) M2 := fun X => by
    have e1 : e2 kIxA (eV 1) (Dl.eC (.int 1)) [some (.adr n), some f.d, some (pD p), some (.str s), some (.adr k), x5, x6, x7, x8, x9, x10, x11, x12, X, x14, x15] M = .ok (.int f.S) M := by simp [Frm.d]
    have e2' : e2 kIxA (eV 1) (Dl.eC (.int 2)) [some (.adr n), some f.d, some (pD p), some (.str s), some (.adr k), x5, x6, x7, x8, x9, x10, x11, x12, X, x14, x15] M1 = .ok (.int f.C) M1 := by simp [Frm.d]
    simp only [fSet, eTup, aC, eF, e1, e2', eV, Dl.eC, aN, bind_ok, List.getElem?_cons_zero, List.getElem?_cons_succ, List.length_cons, List.length_nil, pick, List.filterMap_cons, List.filterMap_nil, List.append_nil]
    simp [a1, b1, pD, q, Frm.d]
  cases h12 : look (BG f p tt 12) q with
  | some w =>
    rw [h12] at c1
    simp only [Option.map_some, Option.getD_some] at c1
    obtain ⟨hl, hv, hkey⟩ := way_facts hf hp hm h12
    obtain ⟨l, M4, d1, d2⟩ := rplaces_ok hf hp (fun x hx => by have := hm x hx; omega) hv (by omega) M3
    have la : L2.atI (l ++ [pD q]) (-1) = some (pD q) := Dl.atI_last _ _
    have hk4 := d2.at hk3 (by simp)
    have nq := ne_pD q
    have nw := ne_wD w
    have wn : isNon (wD w) = false := rfl
    refine ⟨some (pD q), some (wD w), M4, ?_, wid (c2.trans d2), pot3 (c2.trans d2)⟩
    refine (fSq_nx (first x13)).trans ?_
    refine (fSq_nx (M1 := M3) (e1 := [some (.adr n), some f.d, some (pD p), some (.str s), some (.adr k), x5, x6, x7, x8, x9, x10, x11, some (pD q), some (wD w), x14, x15]) (by simp [c1])).trans ?_
    have ix : ∀ M' : Mem, kIxA (.lst (l ++ [pD q])) (.int (-1)) M' = .ok (pD q) M' := fun M' => by simp [la]
    cases h4' : look (BG f p tt 4) q with
    | some w' =>
      have ew : w' = w := by have := look12 h4'; rw [h12] at this; exact (Option.some.inj this).symm
      subst ew
      refine (fSq_nx (M1 := M4) (e1 := [some (.adr n), some f.d, some (pD p), some (.str s), some (.adr k), x5, x6, x7, x8, x9, x10, x11, some (pD q), some (wD w'), x14, x15]) ?_).trans ?_
      · simp [-kInA, -kIxA, -kNeA, inA_lck hk3, h4', ixA_lck hk3 h4', nw, -isNon, wn, d1, ix, nq]
      · simp [-kInA, -kIxA, -kNeA, inA_lck hk4, h4', -isNon, wn]
    | none =>
      have h5 : ¬ (w.length : Int) < 5 := by
        intro hlt
        have hle : w.length ≤ 4 := by omega
        obtain ⟨m, e⟩ := BG_grow (f := f) (p := p) (gd := tt) hle
        have : q ∈ keys (BG f p tt 4) := by rw [e, keys_app]; exact List.mem_append_left _ hkey
        exact (look_none.mp h4') this
      refine (fSq_nx (M1 := M4) (e1 := [some (.adr n), some f.d, some (pD p), some (.str s), some (.adr k), x5, x6, x7, x8, x9, x10, x11, some (pD q), some (wD w), x14, x15]) ?_).trans ?_
      · simp [-kInA, -kIxA, -kNeA, inA_lck hk3, h4', -isNon, wn, d1, ix, nq]
      · have hlen : kLen [wD w] M4 = .ok (.int (w.length : Nat)) M4 := by simp [wD]
        simp [-kInA, -kIxA, -kNeA, -kLen, inA_lck hk4, h4', -isNon, wn, hlen, h5]
  | none =>
    rw [h12] at c1
    simp only [Option.map_none, Option.getD_none] at c1
    have h4' : look (BG f p tt 4) q = none := by
      cases h : look (BG f p tt 4) q with
      | none => rfl
      | some w => rw [look12 h] at h12; cases h12
    obtain ⟨sp, kc, M4, d1, d2, d3, d4, d5⟩ := come2 hf hp hm (t := 12) (by decide) M3
    have hni : decide (q ∈ sp) = false := decide_eq_false fun h => (look_none.mp h12) ((d5.mem q).mp h)
    have inl := inL_places d3 id q
    rw [hni] at inl
    refine ⟨some (pD q), some .non, M4, ?_, wid (c2.trans d4), pot3 (c2.trans d4)⟩
    refine (fSq_nx (first x13)).trans ?_
    refine (fSq_nx (M1 := M3) (e1 := [some (.adr n), some f.d, some (pD p), some (.str s), some (.adr k), x5, x6, x7, x8, x9, x10, x11, some (pD q), some .non, x14, x15]) (by simp [c1])).trans ?_
    refine (fSq_nx (M1 := M3) (e1 := [some (.adr n), some f.d, some (pD p), some (.str s), some (.adr k), x5, x6, x7, x8, x9, x10, x11, some (pD q), some .non, x14, x15]) ?_).trans ?_
    · simp [-kInA, -kIxA, -kNeA, inA_lck hk3, h4', isD]
    · have d1' : F_come_within [f.d, pD p, .int 12] M3 = .ok (.adr kc) M4 := d1
      simp [-kInA, -kIxA, -kNeA, inA_lck hk3, h4', isD, d1', inl]
end Lw

set_option maxHeartbeats 2000000
/-! k50: more in the row; a farm with one step fewer. -/
namespace Lw
open PySem PySem.Spec PyProof.Rows L2 Dl
theorem addL_comm : ∀ (l ds es : List Int), addL (addL l ds) es = addL (addL l es) ds
  | [], _, _ => rfl
  | x :: l, [], [] => rfl
  | x :: l, [], e :: es => by simp [addL]
  | x :: l, d :: ds, [] => by simp [addL]
  | x :: l, d :: ds, e :: es => by
    have := addL_comm l ds es
    unfold addL at this ⊢
    simp only [List.zip_cons_cons, List.map_cons, List.cons.injEq]
    exact ⟨by omega, this⟩
theorem leB_up : ∀ (l ds ws : List Int), (∀ d ∈ ds, 0 ≤ d) → leB l ws = true → leB (addL l ds) ws = true
  | [], _, _, _, h => h
  | x :: l, [], ws, _, _ => rfl
  | x :: l, d :: ds, [], _, _ => by simp [leB]
  | x :: l, d :: ds, w :: ws, h, hl => by
    have h1 := h d List.mem_cons_self
    simp only [leB, List.zip_cons_cons, List.all_cons, Bool.and_eq_true, decide_eq_true_eq] at hl
    have := leB_up l ds ws (fun d hd => h d (List.mem_cons_of_mem _ hd)) hl.2
    unfold leB addL at this ⊢
    simp only [List.zip_cons_cons, List.map_cons, List.all_cons, Bool.and_eq_true, decide_eq_true_eq]
    exact ⟨by omega, this⟩
theorem addL_inj : ∀ (l m ds : List Int), l.length = ds.length → m.length = ds.length → addL l ds = addL m ds → l = m
  | [], [], _, _, _, _ => rfl
  | [], _ :: _, [], _, h, _ => by simp at h
  | [], _ :: _, _ :: _, h, _, _ => by simp at h
  | _ :: _, [], [], h, _, _ => by simp at h
  | _ :: _, [], _ :: _, _, h, _ => by simp at h
  | _ :: _, _ :: _, [], h, _, _ => by simp at h
  | x :: l, y :: m, d :: ds, h1, h2, h => by
    simp only [addL, List.zip_cons_cons, List.map_cons, List.cons.injEq] at h
    have := addL_inj l m ds (by simpa using h1) (by simpa using h2) h.2
    rw [this, show x = y by omega]
def up (ds : List Int) (q : Plc) : Plc := (q.1, addL q.2 ds)
theorem go_up (ds : List Int) (q : Plc) (s : Stp) : go (up ds q) s = up ds (go q s) := by
  simp only [go, up, addL_comm]
theorem let_up {ds : List Int} (h : ∀ d ∈ ds, 0 ≤ d) {q : Plc} {s : Stp} (hl : letB q s = true) : letB (up ds q) s = true := by
  simp only [letB, Bool.and_eq_true] at hl ⊢
  exact ⟨hl.1, leB_up _ _ _ h hl.2⟩
theorem exts_mem {f : Frm} {e e' : Ent} : e' ∈ exts f e ↔ ∃ i s, f.ss[i]? = some s ∧ letB e.2 s = true ∧ e' = (e.1 ++ [i], go e.2 s) := by
  unfold exts lets
  rw [List.mem_filterMap]
  constructor
  · rintro ⟨i, hi, h⟩
    rw [List.mem_filter] at hi
    cases hs : f.ss[i]? with
    | none => rw [hs] at h; cases h
    | some s =>
      rw [hs] at h hi
      exact ⟨i, s, hs, hi.2, (Option.some.inj h).symm⟩
  · rintro ⟨i, s, hs, hl, rfl⟩
    refine ⟨i, List.mem_filter.mpr ⟨List.mem_range.mpr (lt_of_some hs), by rw [hs]; exact hl⟩, by rw [hs]; rfl⟩
theorem runs_succ {f : Frm} {p : Plc} {t : Nat} {e' : Ent} : e' ∈ runsG f p tt (t + 1) ↔ ∃ e ∈ runsG f p tt t, e' ∈ exts f e := by
  show e' ∈ ((runsG f p tt t).filter fun _ => true).flatMap (exts f) ↔ _
  rw [List.filter_eq_self.mpr fun _ _ => rfl, List.mem_flatMap]
theorem runs_up {f : Frm} {p : Plc} {ds : List Int} (h : ∀ d ∈ ds, 0 ≤ d) : ∀ t, ∀ w q, (w, q) ∈ runsG f p tt t → (w, up ds q) ∈ runsG f (up ds p) tt t
  | 0, w, q, hq => by
    cases List.mem_singleton.mp hq
    exact List.mem_singleton.mpr rfl
  | t + 1, w, q, hq => by
    obtain ⟨⟨w0, q0⟩, h0, h1⟩ := runs_succ.mp hq
    obtain ⟨i, s, hs, hl, e⟩ := exts_mem.mp h1
    cases e
    exact runs_succ.mpr ⟨_, runs_up h t _ _ h0, exts_mem.mpr ⟨i, s, hs, let_up h hl, by rw [go_up]⟩⟩
theorem BG_runs {f : Frm} {p : Plc} {t : Nat} {q : Plc} : q ∈ keys (BG f p tt t) ↔ ∃ s, s ≤ t ∧ ∃ w, (w, q) ∈ runsG f p tt s := by
  constructor
  · intro h
    obtain ⟨x, hx, rfl⟩ := List.mem_map.mp h
    obtain ⟨s, hs, hr⟩ := BG_mem (w := x.2) (q := x.1) hx
    exact ⟨s, hs, _, hr⟩
  · rintro ⟨s, hs, w, hr⟩
    obtain ⟨m, e⟩ := BG_grow (f := f) (p := p) (gd := tt) hs
    rw [e, keys_app]
    exact List.mem_append_left _ (BG_run hr)
theorem nodup_sub {α : Type} [DecidableEq α] : ∀ (l m : List α), l.Nodup → (∀ x ∈ l, x ∈ m) → l.length ≤ m.length
  | [], _, _, _ => Nat.zero_le _
  | x :: l, m, hn, h => by
    rw [List.nodup_cons] at hn
    have hx := h x List.mem_cons_self
    have := nodup_sub l (m.erase x) hn.2 fun y hy => by
      have hne : y ≠ x := fun e => hn.1 (e ▸ hy)
      exact (List.mem_erase_of_ne hne).mpr (h y (List.mem_cons_of_mem _ hy))
    rw [List.length_erase_of_mem hx] at this
    have hp : 0 < m.length := List.length_pos_of_mem hx
    simp only [List.length_cons]
    omega
theorem nodup_map {α β : Type} {g : α → β} : ∀ (l : List α), l.Nodup → (∀ x ∈ l, ∀ y ∈ l, g x = g y → x = y) → (l.map g).Nodup
  | [], _, _ => List.nodup_nil
  | x :: l, hn, h => by
    rw [List.nodup_cons] at hn
    rw [List.map_cons, List.nodup_cons]
    refine ⟨fun hm => ?_, nodup_map l hn.2 fun a ha b hb => h a (List.mem_cons_of_mem _ ha) b (List.mem_cons_of_mem _ hb)⟩
    obtain ⟨y, hy, e⟩ := List.mem_map.mp hm
    have := h y (List.mem_cons_of_mem _ hy) x List.mem_cons_self e
    exact hn.1 (this ▸ hy)
theorem above_le {f : Frm} (hf : f.Ok) {p : Plc} (hp : Gp f p) (hm : ∀ x ∈ p.2, x ≤ 10) {ds : List Int} (h : ∀ d ∈ ds, 0 ≤ d) (hl : ds.length = p.2.length) {t : Nat} (ht : t ≤ 12) : (BG f p tt t).length ≤ (BG f (up ds p) tt t).length := by
  have e : ∀ F : Fst, F.length = (keys F).length := fun F => by simp [keys]
  rw [e, e, ← List.length_map (f := up ds)]
  refine nodup_sub _ _ (nodup_map _ (BG_nodup t) fun x hx y hy q => ?_) fun x hx => ?_
  · have gx := (small_place hf hp hm ht hx).2
    have gy := (small_place hf hp hm ht hy).2
    have q1 : x.1 = y.1 := congrArg (·.1) q
    have q2 : addL x.2 ds = addL y.2 ds := congrArg (·.2) q
    have l0 := hp.len; have l1 := gx.len; have l2 := gy.len
    exact Prod.ext q1 (addL_inj _ _ _ (by omega) (by omega) q2)
  · obtain ⟨y, hy, rfl⟩ := List.mem_map.mp hx
    obtain ⟨s, hs, w, hr⟩ := BG_runs.mp hy
    exact BG_runs.mpr ⟨s, hs, w, runs_up h s _ _ hr⟩
def Frm.cut (f : Frm) : Frm := ⟨f.S, f.C, f.ss.dropLast⟩
theorem Frm.Ok.cut {f : Frm} (h : f.Ok) : f.cut.Ok := ⟨h.S1, h.S6, h.C1, h.C3, by have := h.n12; simp [Frm.cut]; omega, fun s hs => by
  have k := h.st s (List.dropLast_subset _ hs)
  exact ⟨k.fr0, k.fr1, k.to0, k.to1, k.wl, k.el, k.w9, k.e9, k.we⟩⟩
theorem Gp.cut {f : Frm} {p : Plc} (h : Gp f p) : Gp f.cut p := ⟨h.p0, h.p1, h.len, h.nn⟩
theorem runs_cut {f : Frm} {p : Plc} : ∀ t, ∀ e ∈ runsG f.cut p tt t, e ∈ runsG f p tt t
  | 0, e, h => h
  | t + 1, e, h => by
    obtain ⟨e0, h0, h1⟩ := runs_succ.mp h
    obtain ⟨i, s, hs, hl, rfl⟩ := exts_mem.mp h1
    refine runs_succ.mpr ⟨e0, runs_cut t e0 h0, exts_mem.mpr ⟨i, s, ?_, hl, rfl⟩⟩
    have hs : f.ss.dropLast[i]? = some s := hs
    rw [List.getElem?_dropLast] at hs
    split at hs
    · exact hs
    · cases hs
theorem BG_cut {f : Frm} {p : Plc} {t : Nat} {q : Plc} (h : q ∈ keys (BG f.cut p tt t)) : q ∈ keys (BG f p tt t) := by
  obtain ⟨s, hs, w, hr⟩ := BG_runs.mp h
  exact BG_runs.mpr ⟨s, hs, w, runs_cut s _ hr⟩
end Lw

set_option maxHeartbeats 2000000
/-! k50: the farm's text. -/
namespace Lw
open PySem PySem.Spec PyProof.Rows L2 Dl
def dS (s : Stp) : PyData := .tuple [.str "step", .int s.fr, .int s.to, .tuple (s.ws.map .int), .tuple (s.es.map .int), .int 0]
def dF (f : Frm) : PyData := .tuple [.str "farm", .int f.S, .int f.C, .tuple (f.ss.map dS)]
theorem py_stp (M : Mem) (s : Stp) : py M s.d = some (dS s) := by simp [Stp.d, dS, py, pys, py_ints]
theorem py_frm (M : Mem) (f : Frm) : py M f.d = some (dF f) := by
  have := pys_map M Stp.d dS f.ss fun s _ => py_stp M s
  simp [Frm.d, dF, py, pys, this]
theorem str4 : (PyData.shown (.str "step")).length ≤ 8 ∧ (PyData.shown (.str "farm")).length ≤ 8 := by decide +kernel
theorem dp_ints (l : List Int) : (PyData.tuple (l.map .int)).depth ≤ 2 := by simp [PyData.depth, depth_ints]
theorem stp_text {f : Frm} (hf : f.Ok) {s : Stp} (h : s.Ok f) : sm (dS s) = true ∧ (dS s).depth ≤ 10 ∧ (dS s).shown.length ≤ 2000 := by
  have hS := hf.S6; have hC := hf.C3
  have a1 := h.fr0; have a2 := h.fr1; have a3 := h.to0; have a4 := h.to1
  have w := shw_ints s.ws (fun x hx => by have := h.w9 x hx; omega) (by have := h.wl; omega)
  have e := shw_ints s.es (fun x hx => by have := h.e9 x hx; omega) (by have := h.el; omega)
  have i1 : s.fr.natAbs < 1000 := by omega
  have i2 : s.to.natAbs < 1000 := by omega
  refine ⟨?_, ?_, ?_⟩
  · unfold dS
    simp only [sm, sms, Bool.and_true, Bool.true_and]
    have := w.s; have := e.s
    simp only [sm] at *
    simp [*]
  · unfold dS
    rw [PyData.depth]
    have := depthAll_le [.str "step", .int s.fr, .int s.to, .tuple (s.ws.map .int), .tuple (s.es.map .int), .int 0] 9 (fun d hd => by
      have p1 := dp_ints s.ws; have p2 := dp_ints s.es
      simp only [List.mem_cons, List.not_mem_nil, or_false] at hd
      rcases hd with rfl | rfl | rfl | rfl | rfl | rfl <;> first | omega | (simp [PyData.depth]))
    omega
  · unfold dS
    have := tuple_shown [.str "step", .int s.fr, .int s.to, .tuple (s.ws.map .int), .tuple (s.es.map .int), .int 0] 300 (fun d hd => by
      have p1 := w.len; have p2 := e.len
      have q1 := int_len i1; have q2 := int_len i2; have q3 := int_len (i := 0) (by decide); have q4 := str4.1
      simp only [List.mem_cons, List.not_mem_nil, or_false] at hd
      rcases hd with rfl | rfl | rfl | rfl | rfl | rfl <;> omega)
    simp only [List.length_cons, List.length_nil] at this
    omega
theorem frm_text {f : Frm} (hf : f.Ok) : sm (dF f) = true ∧ (dF f).depth ≤ 40 ∧ (dF f).shown.length ≤ sizeLine := by
  have hS := hf.S6; have hC := hf.C3; have hS1 := hf.S1; have hC1 := hf.C1
  have hn := hf.n12
  have i1 : f.S.natAbs < 1000 := by omega
  have i2 : f.C.natAbs < 1000 := by omega
  have m : ∀ d ∈ f.ss.map dS, sm d = true ∧ d.depth ≤ 10 ∧ d.shown.length ≤ 2000 := fun d hd => by
    obtain ⟨s, hs, rfl⟩ := List.mem_map.mp hd
    exact stp_text hf (hf.st s hs)
  have t1 : sm (.tuple (f.ss.map dS)) = true := by
    rw [sm]; exact sms_map _ _ fun s hs => (stp_text hf (hf.st s hs)).1
  have t2 : (PyData.tuple (f.ss.map dS)).depth ≤ 11 := by
    rw [PyData.depth]
    have := depthAll_le (f.ss.map dS) 10 fun d hd => (m d hd).2.1
    omega
  have t3 := tuple_shown (f.ss.map dS) 2000 fun d hd => (m d hd).2.2
  rw [List.length_map] at t3
  have t3 : (PyData.tuple (f.ss.map dS)).shown.length ≤ 25000 := by omega
  refine ⟨?_, ?_, ?_⟩
  · unfold dF
    rw [sm, sms, sms, sms, sms, t1]
    simp [sm, sms, i1, i2]
  · unfold dF
    rw [PyData.depth]
    have := depthAll_le [.str "farm", .int f.S, .int f.C, .tuple (f.ss.map dS)] 12 (fun d hd => by
      simp only [List.mem_cons, List.not_mem_nil, or_false] at hd
      rcases hd with rfl | rfl | rfl | rfl <;> first | omega | (simp [PyData.depth]))
    omega
  · unfold dF
    have := tuple_shown [.str "farm", .int f.S, .int f.C, .tuple (f.ss.map dS)] 25000 (fun d hd => by
      have q1 := int_len i1; have q2 := int_len i2; have q4 := str4.2
      simp only [List.mem_cons, List.not_mem_nil, or_false] at hd
      rcases hd with rfl | rfl | rfl | rfl <;> omega)
    simp only [List.length_cons, List.length_nil] at this
    rw [sizeLine_eq]; omega
theorem repr_frm {f : Frm} (hf : f.Ok) (M : Mem) : kRepr [f.d] M = .ok (.str (dF f).shown) M := by
  obtain ⟨a, b, c⟩ := frm_text hf
  exact kRepr_of rfl (py_frm M f) a b c
end Lw

set_option maxHeartbeats 4000000
/-! k50: the loops of the law. -/
namespace Lw
open PySem PySem.Spec PyProof.Rows L2 Dl
def lvl3 : Fs := fFor (fEnumA (aC (eF 3 0 [0, 1, 2] F__law_all_runs (aC (eV 1) (aC (eV 2) (aC (Dl.eC (.int 4)) aN))) aN) aN)) (.tp [5, 6]) lvlB
theorem lvl3_ok {f : Frm} (hf : f.Ok) (h4 : f.ss.length ≤ 4) {p : Plc} (hp : Gp f p) (hm : ∀ x ∈ p.2, x ≤ 10) {n k : Nat} {s : Str} {x12 x13 x14 x15 : Option D} {M : Mem} (hk : M[k]? = some (some (.dic []))) :
    ∃ y5 y6 y7 y10 y11 M', lvl3 [some (.adr n), some f.d, some (pD p), some (.str s), some (.adr k), none, none, none, none, none, none, none, x12, x13, x14, x15] M = .ok (.nx [some (.adr n), some f.d, some (pD p), some (.str s), some (.adr k), y5, y6, y7, none, none, y10, y11, x12, x13, x14, x15]) M' ∧
      M'[k]? = some (some (.dic (fsD (BG f p tt 4)))) ∧ Kept [k] M M' := by
  obtain ⟨M1, a1, a2⟩ := allruns_ok hf h4 hp M
  have hk1 : M1[k]? = some (some (.dic (fsD (prevB f p tt 0)))) := a2.at hk (by simp)
  obtain ⟨env', M2, b1, ⟨y5, y6, y7, y10, y11, rfl⟩, b2, b3⟩ := loop_inv (M0 := M1) (pin := []) (p := .tp [5, 6]) (b := lvlB) (fun (t : Nat) => D.tup [.int (t : Nat), .lst ((runsG f p tt t).map eD)]) (fun t env M' => (∃ y5 y6 y7 y10 y11, env = [some (.adr n), some f.d, some (pD p), some (.str s), some (.adr k), y5, y6, y7, none, none, y10, y11, x12, x13, x14, x15]) ∧ M'[k]? = some (some (.dic (fsD (prevB f p tt t)))) ∧ Kept [k] M1 M') (fun _ _ _ _ => rfl) (List.range 5) 0 [some (.adr n), some f.d, some (pD p), some (.str s), some (.adr k), none, none, none, none, none, none, none, x12, x13, x14, x15] M1 (fun t i env M3 e q => by
    rw [Nat.zero_add] at q ⊢
    obtain ⟨⟨y5, y6, y7, y10, y11, rfl⟩, q1, q2⟩ := q
    have hi : i = t := by rw [List.getElem?_range (by have := lt_of_some e; simpa using this)] at e; exact (Option.some.inj e).symm
    subst hi
    have ht : i < 5 := by have := lt_of_some e; simpa using this
    obtain ⟨z7, z10, z11, M4, r1, r2, r3⟩ := lvl_turn hf h4 hp hm (n := n) (k := k) (s := s) (x7 := y7) (x8 := none) (x9 := none) (x10 := y10) (x11 := y11) (x12 := x12) (x13 := x13) (x14 := x14) (x15 := x15) (t := i) (by omega) q1
    exact ⟨_, _, M4, rfl, r1, ⟨_, _, _, _, _, rfl⟩, r2, q2.trans r3⟩) ⟨⟨_, _, _, _, _, rfl⟩, hk1, Kept.refl _ _⟩
  refine ⟨y5, y6, y7, y10, y11, M2, ?_, b2, ⟨Nat.le_trans a2.1 b3.1, fun m hm hn => (b3.2 m (Nat.lt_of_lt_of_le hm a2.1) hn).trans (a2.2 m hm (by simp))⟩⟩
  have en : numD 0 (Lv f p 5) = (List.range 5).map fun (t : Nat) => D.tup [.int (t : Nat), .lst ((runsG f p tt t).map eD)] := rfl
  show ((fEnumA (aC (eF 3 0 [0, 1, 2] F__law_all_runs (aC (eV 1) (aC (eV 2) (aC (Dl.eC (.int 4)) aN))) aN) aN)) _ M).bind _ = _
  have e1 : (fEnumA (aC (eF 3 0 [0, 1, 2] F__law_all_runs (aC (eV 1) (aC (eV 2) (aC (Dl.eC (.int 4)) aN))) aN) aN)) [some (.adr n), some f.d, some (pD p), some (.str s), some (.adr k), none, none, none, none, none, none, none, x12, x13, x14, x15] M = .ok (numD 0 (Lv f p 5), []) M1 := by
    simp [a1]
  rw [e1, en]
  exact b1
def key3 : Fs := fFor (fItA (eV 4)) (.nm 7) keyB
theorem key3_ok {f : Frm} (hf : f.Ok) (h4 : f.ss.length ≤ 4) {p : Plc} (hp : Gp f p) (hm : ∀ x ∈ p.2, x ≤ 10) {n k : Nat} {s : Str} {x5 x6 x7 x8 x9 x10 x11 x12 x13 x14 x15 : Option D} {M : Mem} (hk : M[k]? = some (some (.lck (fsD (BG f p tt 4))))) :
    ∃ y7 M', key3 [some (.adr n), some f.d, some (pD p), some (.str s), some (.adr k), x5, x6, x7, x8, x9, x10, x11, x12, x13, x14, x15] M = .ok (.nx [some (.adr n), some f.d, some (pD p), some (.str s), some (.adr k), x5, x6, y7, x8, x9, x10, x11, x12, x13, x14, x15]) M' ∧ Kept [] M M' := by
  obtain ⟨env', M2, b1, ⟨y7, rfl⟩, b3⟩ := loop_inv (M0 := M) (pin := []) (p := .nm 7) (b := keyB) pD (fun t env M' => (∃ y7, env = [some (.adr n), some f.d, some (pD p), some (.str s), some (.adr k), x5, x6, y7, x8, x9, x10, x11, x12, x13, x14, x15]) ∧ Kept [] M M') (fun _ _ _ _ => rfl) (keys (BG f p tt 4)) 0 [some (.adr n), some f.d, some (pD p), some (.str s), some (.adr k), x5, x6, x7, x8, x9, x10, x11, x12, x13, x14, x15] M (fun j q env M3 e i => by
    obtain ⟨⟨y7, rfl⟩, i2⟩ := i
    obtain ⟨M4, r1, r2⟩ := key_turn hf h4 hp hm (n := n) (k := k) (s := s) (x5 := x5) (x6 := x6) (x8 := x8) (x9 := x9) (x10 := x10) (x11 := x11) (x12 := x12) (x13 := x13) (x14 := x14) (x15 := x15) (q := q) (List.mem_of_getElem? e) (i2.at hk (by simp))
    exact ⟨_, _, M4, rfl, r1, ⟨_, rfl⟩, i2.trans r2⟩) ⟨⟨_, rfl⟩, Kept.refl _ _⟩
  refine ⟨y7, M2, ?_, b3⟩
  have e1 : (fItA (eV 4)) [some (.adr n), some f.d, some (pD p), some (.str s), some (.adr k), x5, x6, x7, x8, x9, x10, x11, x12, x13, x14, x15] M = .ok ((keys (BG f p tt 4)).map pD, []) M := by
    have : ((fsD (BG f p tt 4)).map fun y => kD y.1) = (keys (BG f p tt 4)).map pD := by
      unfold fsD keys
      rw [List.map_map, List.map_map]
      exact List.map_congr_left fun e _ => kD_pK e.1
    simp [hk, this]
  show ((fItA (eV 4)) _ M).bind _ = _
  rw [e1]
  exact b1
def goal3 : Fs := fFor (fRng1 (aC (Dl.eC (.int 4)) aN)) (.nm 8) goalB
theorem goal3_ok {f : Frm} (hf : f.Ok) (h4 : f.ss.length ≤ 4) {p : Plc} (hp : Gp f p) (hm : ∀ x ∈ p.2, x ≤ 10) {n k : Nat} {s : Str} {x5 x6 x7 x8 x9 x10 x11 x12 x13 x14 x15 : Option D} {M : Mem} (hk : M[k]? = some (some (.lck (fsD (BG f p tt 4))))) (hnk : n ≠ k) (hn : Pot M n) :
    ∃ y8 y12 y13 M', goal3 [some (.adr n), some f.d, some (pD p), some (.str s), some (.adr k), x5, x6, x7, x8, x9, x10, x11, x12, x13, x14, x15] M = .ok (.nx [some (.adr n), some f.d, some (pD p), some (.str s), some (.adr k), x5, x6, x7, y8, x9, x10, x11, y12, y13, x14, x15]) M' ∧ Kept [n] M M' ∧ Pot M' n := by
  obtain ⟨env', M2, b1, ⟨y8, y12, y13, rfl⟩, b2, b3⟩ := loop_inv (M0 := M) (pin := []) (p := .nm 8) (b := goalB) (fun (i : Nat) => D.int (i : Nat)) (fun t env M' => (∃ y8 y12 y13, env = [some (.adr n), some f.d, some (pD p), some (.str s), some (.adr k), x5, x6, x7, y8, x9, x10, x11, y12, y13, x14, x15]) ∧ Kept [n] M M' ∧ Pot M' n) (fun _ _ _ _ => rfl) (List.range 4) 0 [some (.adr n), some f.d, some (pD p), some (.str s), some (.adr k), x5, x6, x7, x8, x9, x10, x11, x12, x13, x14, x15] M (fun j q env M3 e i => by
    obtain ⟨⟨y8, y12, y13, rfl⟩, i2, i3⟩ := i
    obtain ⟨z12, z13, M4, r1, r2, r3⟩ := goal_turn hf h4 hp hm (n := n) (k := k) (s := s) (x5 := x5) (x6 := x6) (x7 := x7) (x8 := some (.int (q : Nat))) (x9 := x9) (x10 := x10) (x11 := x11) (x12 := y12) (x13 := y13) (x14 := x14) (x15 := x15) (i2.at hk (by simp [Ne.symm hnk])) hnk i3
    exact ⟨_, _, M4, rfl, r1, ⟨_, _, _, rfl⟩, i2.trans r2, r3⟩) ⟨⟨_, _, _, rfl⟩, Kept.refl _ _, hn⟩
  refine ⟨y8, y12, y13, M2, ?_, b2, b3⟩
  have e1 : (fRng1 (aC (Dl.eC (.int 4)) aN)) [some (.adr n), some f.d, some (pD p), some (.str s), some (.adr k), x5, x6, x7, x8, x9, x10, x11, x12, x13, x14, x15] M = .ok ((List.range 4).map fun (i : Nat) => D.int (i : Nat), []) M := by
    have := kRng1_nat (n := 4) (M := M) (by rw [sizeLine_eq]; decide)
    simpa using this
  unfold goal3 fFor
  rw [e1]
  exact b1
end Lw

set_option maxHeartbeats 4000000
/-! k50: the law's end. -/
namespace Lw
open PySem PySem.Spec PyProof.Rows L2 Dl
def oneF : Fe := e2 kAdd (eV 15) (eF 2 0 [0, 1] F__law_draw (aC (eV 0) (aC (Dl.eC (.int 2)) aN)) aN)
theorem above_comp {n : Nat} {M0 M00 : Mem} {env0 : Dl.Env} (henv : env0[0]? = some (some (.adr n))) (hlen : env0.length = 16) (l : List Int) (h : Pot M0 n) :
    ∃ (ds : List Int) (M' : Mem), compF M00 [] (.nm 15) tYesF oneF env0 (l.map D.int) M0 = .ok ((addL l ds).map D.int) M' ∧ ds.length = l.length ∧ (∀ d ∈ ds, 0 ≤ d ∧ d ≤ 1) ∧ Pot M' n ∧ Kept [n] M0 M' := by
  obtain ⟨vs, M', h1, ds, h2, h3, h4, h5, h6⟩ := comp_inv (M0 := M00) (pin := []) (p := .nm 15) (f := oneF) (env0 := env0) D.int (fun i acc M => ∃ ds : List Int, acc = (addL (l.take i) ds).map D.int ∧ ds.length = i ∧ (∀ v ∈ ds, 0 ≤ v ∧ v ≤ 1) ∧ Pot M n ∧ Kept [n] M0 M) (fun _ _ _ _ => rfl) l 0 [] M0 (fun j a acc M e q => by
    rw [Nat.zero_add] at q ⊢
    obtain ⟨ds, rfl, q1, q2, q3, q4⟩ := q
    obtain ⟨d, M2, r1, r2, r3, r4, r5⟩ := draw_ok (many := 2) q3 (by decide) (by decide)
    have hj := lt_of_some e
    have ta : l.take (j + 1) = l.take j ++ [a] := by rw [List.take_succ, e]; rfl
    have g0 : (env0.set 15 (some (D.int a)))[0]? = some (some (.adr n)) := by rw [List.getElem?_set_ne (by decide)]; exact henv
    have g15 : (env0.set 15 (some (D.int a)))[15]? = some (some (.int a)) := List.getElem?_set_self (by omega)
    refine ⟨_, .int (a + d), M2, rfl, by simp [oneF, g0, g15, r1], ds ++ [d], ?_, by simp; omega, fun v hv => ?_, r4, q4.trans r5⟩
    · rw [ta]
      unfold addL
      rw [List.zip_append (by simp; omega)]
      simp
    · rcases List.mem_append.mp hv with hv | hv
      · exact q2 v hv
      · rw [List.mem_singleton.mp hv]; exact ⟨r2, by omega⟩) ⟨[], by simp [addL], rfl, (fun _ h => nomatch h), h, Kept.refl _ _⟩
  rw [List.nil_append, Nat.zero_add, List.take_length] at h2
  rw [Nat.zero_add] at h3
  subst h2
  exact ⟨ds, M', h1, h3, h4, h5, h6⟩
theorem cut_last (l : List D) : Dl.cutD l none (some (-1)) = l.dropLast := by
  rw [List.dropLast_eq_take]
  unfold Dl.cutD
  simp only [HT.sIx, List.drop_zero]
  congr 1
  split <;> omega
def aboveB : Fs := fSet 9 (eTup (aC (e2 kIxA (eV 2) (Dl.eC (.int 0))) (aC (eB kTupOf (aC (fV (fLc [15] (fItA (e2 kIxA (eV 2) (Dl.eC (.int 1)))) (.nm 15) tYesF oneF)) aN)) aN)))
def moreB : Fs := fIf (tBl (e2 kLt (eB kLen (aC (eF 3 0 [0, 1, 2] F_come_within (aC (eV 1) (aC (eV 9) (aC (Dl.eC (.int 4)) aN))) aN) aN)) (eB kLen (aC (eF 3 0 [0, 1, 2] F_come_within (aC (eV 1) (aC (eV 2) (aC (Dl.eC (.int 4)) aN))) aN) aN)))) (fRet (Dl.eC (.bl false))) fN
def lessB : Fs := fIf (tBl (e2 kGt (eB kLen (aC (e2 kIxA (eV 1) (Dl.eC (.int 3))) aN)) (Dl.eC (.int 1)))) (fSq (fSet 14 (e2 kAdd (eSl (eV 1) oN (oS (Dl.eC (.int 3)))) (eTup (aC (eSl (e2 kIxA (eV 1) (Dl.eC (.int 3))) oN (oS (e1 kNeg (Dl.eC (.int 1))))) aN)))) (fIf (tV (eB kAny (aC (fV (fLc [15] (fItA (eF 3 0 [0, 1, 2] F_come_within (aC (eV 14) (aC (eV 2) (aC (Dl.eC (.int 4)) aN))) aN)) (.nm 15) tYesF (e2 (kInA (!·)) (eV 15) (eF 3 0 [0, 1, 2] F_come_within (aC (eV 1) (aC (eV 2) (aC (Dl.eC (.int 4)) aN))) aN)))) aN))) (fRet (Dl.eC (.bl false))) fN)) fN
theorem above_ok {f : Frm} {p : Plc} {n : Nat} {x3 x4 x5 x6 x7 x8 x9 x10 x11 x12 x13 x14 x15 : Option D} {M : Mem} (hn : Pot M n) :
    ∃ ds M', aboveB [some (.adr n), some f.d, some (pD p), x3, x4, x5, x6, x7, x8, x9, x10, x11, x12, x13, x14, x15] M = .ok (.nx [some (.adr n), some f.d, some (pD p), x3, x4, x5, x6, x7, x8, some (pD (up ds p)), x10, x11, x12, x13, x14, x15]) M' ∧ ds.length = p.2.length ∧ (∀ d ∈ ds, 0 ≤ d ∧ d ≤ 1) := by
  obtain ⟨ds, M', h1, h2, h3, _, _⟩ := above_comp (n := n) (M0 := M) (M00 := M) (env0 := [some (.adr n), some f.d, some (pD p), x3, x4, x5, x6, x7, x8, x9, x10, x11, x12, x13, x14, none]) rfl rfl p.2 hn
  refine ⟨ds, M', ?_, h2, h3⟩
  have e1 : (fLc [15] (fItA (e2 kIxA (eV 2) (Dl.eC (.int 1)))) (.nm 15) tYesF oneF) [some (.adr n), some f.d, some (pD p), x3, x4, x5, x6, x7, x8, x9, x10, x11, x12, x13, x14, x15] M = .ok ((addL p.2 ds).map D.int) M' := by
    unfold fLc
    have : (fItA (e2 kIxA (eV 2) (Dl.eC (.int 1)))) [some (.adr n), some f.d, some (pD p), x3, x4, x5, x6, x7, x8, x9, x10, x11, x12, x13, x14, x15] M = .ok (p.2.map D.int, []) M := by simp [pD]
    rw [this]
    exact h1
  unfold aboveB
  simp only [pD] at h1
  simp [pD, h1, up]
theorem more_ok {f : Frm} (hf : f.Ok) {p : Plc} (hp : Gp f p) (hm : ∀ x ∈ p.2, x ≤ 5) {ds : List Int} (hl : ds.length = p.2.length) (hd : ∀ d ∈ ds, 0 ≤ d ∧ d ≤ 1) {x0 x3 x4 x5 x6 x7 x8 x10 x11 x12 x13 x14 x15 : Option D} {M : Mem} :
    ∃ M', moreB [x0, some f.d, some (pD p), x3, x4, x5, x6, x7, x8, some (pD (up ds p)), x10, x11, x12, x13, x14, x15] M = .ok (.nx [x0, some f.d, some (pD p), x3, x4, x5, x6, x7, x8, some (pD (up ds p)), x10, x11, x12, x13, x14, x15]) M' := by
  have hm' : ∀ x ∈ p.2, x ≤ 10 := fun x hx => by have := hm x hx; omega
  have ha : ∀ x ∈ addL p.2 ds, 0 ≤ x ∧ x ≤ 10 := fun x hx => by
    unfold addL at hx
    obtain ⟨ab, h1, rfl⟩ := List.mem_map.mp hx
    have h2 := List.of_mem_zip (a := ab.1) (b := ab.2) h1
    have := hp.nn _ h2.1
    have := hm _ h2.1
    have := hd _ h2.2
    omega
  have hu : Gp f (up ds p) := ⟨hp.p0, hp.p1, by have := hp.len; show ((addL p.2 ds).length : Int) = _; rw [addL_len hl.symm]; omega, fun x hx => (ha x hx).1⟩
  obtain ⟨sp, k1, M1, a1, a2, a3, a4, a5⟩ := come2 hf hu (fun x hx => (ha x hx).2) (t := 4) (by decide) M
  obtain ⟨sq, k2, M2, b1, b2, b3, b4, b5⟩ := come2 hf hp hm' (t := 4) (by decide) M1
  have hle := above_le hf hp hm' (fun d h => (hd d h).1) hl (t := 4) (by decide)
  have a1' : F_come_within [f.d, pD (up ds p), .int 4] M = .ok (.adr k1) M1 := a1
  have b1' : F_come_within [f.d, pD p, .int 4] M1 = .ok (.adr k2) M2 := b1
  have h1 := a5.len; have h2 := b5.len
  have hn : ¬ ((sp.length : Int) < (sq.length : Int)) := by omega
  refine ⟨M2, ?_⟩
  simp [moreB, a1', b1', a3, b3, hn]
theorem less_ok {f : Frm} (hf : f.Ok) {p : Plc} (hp : Gp f p) (hm : ∀ x ∈ p.2, x ≤ 10) (h4 : f.ss.length ≤ 4) {x0 x3 x4 x5 x6 x7 x8 x9 x10 x11 x12 x13 x14 x15 : Option D} {M : Mem} :
    ∃ y14 M', lessB [x0, some f.d, some (pD p), x3, x4, x5, x6, x7, x8, x9, x10, x11, x12, x13, x14, x15] M = .ok (.nx [x0, some f.d, some (pD p), x3, x4, x5, x6, x7, x8, x9, x10, x11, x12, x13, y14, x15]) M' := by
  by_cases hlen : 1 < f.ss.length
  · obtain ⟨sp, k1, M1, a1, a2, a3, a4, a5⟩ := come2 hf.cut hp.cut hm (t := 4) (by decide) M
    have a1' : F_come_within [f.cut.d, pD p, .int 4] M = .ok (.adr k1) M1 := a1
    have hc : chk M1 [k1] M1 = true := by simp [chk]
    obtain ⟨vs, M2, b1, b2, b3⟩ := comp_inv (M0 := M1) (pin := [k1]) (p := .nm 15) (f := e2 (kInA (!·)) (eV 15) (eF 3 0 [0, 1, 2] F_come_within (aC (eV 1) (aC (eV 2) (aC (Dl.eC (.int 4)) aN))) aN)) (env0 := [x0, some f.d, some (pD p), x3, x4, x5, x6, x7, x8, x9, x10, x11, x12, x13, some f.cut.d, none]) pD (fun i acc M => acc = List.replicate i (.bl false) ∧ Kept [] M1 M) (fun i acc M h => by
      have := h.2.at a3 (by simp)
      simp [chk, this, a3]) sp 0 [] M1 (fun j q acc M3 e i => by
      rw [Nat.zero_add] at i ⊢
      obtain ⟨rfl, i2⟩ := i
      obtain ⟨sq, k2, M4, c1, c2, c3, c4, c5⟩ := come2 hf hp hm (t := 4) (by decide) M3
      have c1' : F_come_within [f.d, pD p, .int 4] M3 = .ok (.adr k2) M4 := c1
      have hq : q ∈ sq := (c5.mem q).mpr (BG_cut ((a5.mem q).mp (List.mem_of_getElem? e)))
      have inl := inL_places c3 (fun b => !b) q
      rw [decide_eq_true hq] at inl
      exact ⟨_, .bl false, M4, rfl, by simp [-kInA, c1', inl], by rw [List.replicate_succ'], i2.trans c4⟩) ⟨rfl, Kept.refl _ _⟩
    rw [List.nil_append, Nat.zero_add] at b2
    subst b2
    have e14 : ∀ X, (fSet 14 (e2 kAdd (eSl (eV 1) oN (oS (Dl.eC (.int 3)))) (eTup (aC (eSl (e2 kIxA (eV 1) (Dl.eC (.int 3))) oN (oS (e1 kNeg (Dl.eC (.int 1))))) aN)))) [x0, some f.d, some (pD p), x3, x4, x5, x6, x7, x8, x9, x10, x11, x12, x13, X, x15] M = .ok (.nx [x0, some f.d, some (pD p), x3, x4, x5, x6, x7, x8, x9, x10, x11, x12, x13, some f.cut.d, x15]) M := fun X => by
      have c0 : Dl.cutD [D.str "farm", D.int f.S, D.int f.C, D.tup (f.ss.map Stp.d)] none (some 3) = [D.str "farm", D.int f.S, D.int f.C] := rfl
      have c1 := cut_last (f.ss.map Stp.d)
      simp [Frm.d, c0, c1, Frm.cut, List.map_dropLast]
      rw [sizeLine_eq]; decide
    have bb : asBls (List.replicate sp.length (D.bl false)) = some (List.replicate sp.length false) := by
      have : ∀ n, asBls (List.replicate n (D.bl false)) = some (List.replicate n false) := fun n => by
        induction n with
        | zero => rfl
        | succ n ih => rw [List.replicate_succ, List.replicate_succ]; simp [asBls, ih]
      exact this _
    refine ⟨some f.cut.d, M2, ?_⟩
    have e1 : (tBl (e2 kGt (eB kLen (aC (e2 kIxA (eV 1) (Dl.eC (.int 3))) aN)) (Dl.eC (.int 1)))) [x0, some f.d, some (pD p), x3, x4, x5, x6, x7, x8, x9, x10, x11, x12, x13, x14, x15] M = .ok true M := by
      simp [Frm.d]; omega
    unfold lessB fIf
    rw [e1]
    simp only [bind_ok, if_true]
    refine (fSq_nx (e14 x14)).trans ?_
    simp [-kInA, a1', a3, b1, bb]
  · refine ⟨x14, M, ?_⟩
    have e1 : (tBl (e2 kGt (eB kLen (aC (e2 kIxA (eV 1) (Dl.eC (.int 3))) aN)) (Dl.eC (.int 1)))) [x0, some f.d, some (pD p), x3, x4, x5, x6, x7, x8, x9, x10, x11, x12, x13, x14, x15] M = .ok false M := by
      simp [Frm.d]; omega
    unfold lessB fIf
    rw [e1]
    simp
end Lw

set_option maxHeartbeats 4000000
/-! k50: the law holds. -/
namespace Lw
open PySem PySem.Spec PyProof.Rows L2 Dl
theorem right_eq : B__law_right = (fSq (fUn (.tp [1, 2]) (eF 1 0 [0] F__law_tame (aC (eV 0) aN) aN)) (fSq (fPar 3 4 (aC (eB kRepr (aC (eV 1) aN)) (aC eD0 aN))) (fSq lvl3 (fSq (fLck 4 key3) (fSq goal3 (fSq aboveB (fSq moreB (fSq lessB (fRet (e2 kEqA (eB kRepr (aC (eV 1) aN)) (eV 3))))))))))) := rfl
theorem right_ok {n : Nat} {M : Mem} (h : Pot M n) : ∃ M', F__law_right [.adr n] M = .ok (.bl true) M' := by
  obtain ⟨f, p, M1, a1, a2, a3, a4⟩ := tame_ok h
  have hf := a2.ok
  have hm : ∀ x ∈ p.2, x ≤ 10 := fun x hx => by have := a2.le x hx; omega
  let k := M1.length
  let M2 : Mem := M1 ++ [some (.dic [])]
  have n1 : n < M1.length := by obtain ⟨_, _, e, _⟩ := a3; exact lt_of_some e
  have hnk : n ≠ k := Nat.ne_of_lt n1
  have hk2 : M2[k]? = some (some (.dic [])) := by show (M1 ++ _)[M1.length]? = _; rw [List.getElem?_append_right (Nat.le_refl _)]; simp
  have rp := fun M => repr_frm hf M
  obtain ⟨y5, y6, y7, y10, y11, M3, b1, b2, b3⟩ := lvl3_ok hf a2.n4 a2.gp hm (n := n) (k := k) (s := (dF f).shown) (x12 := none) (x13 := none) (x14 := none) (x15 := none) hk2
  let M4 : Mem := M3.set k (some (.lck (fsD (BG f p tt 4))))
  have hk4 : M4[k]? = some (some (.lck (fsD (BG f p tt 4)))) := List.getElem?_set_self (lt_of_some b2)
  obtain ⟨z7, M5, c1, c2⟩ := key3_ok hf a2.n4 a2.gp hm (n := n) (k := k) (s := (dF f).shown) (x5 := y5) (x6 := y6) (x7 := y7) (x8 := none) (x9 := none) (x10 := y10) (x11 := y11) (x12 := none) (x13 := none) (x14 := none) (x15 := none) hk4
  have hk5 : M5[k]? = some (some (.lck (fsD (BG f p tt 4)))) := c2.at hk4 (by simp)
  have p5 : Pot M5 n := by
    obtain ⟨a, b, e, r⟩ := a3
    have e2 : M2[n]? = some (some (.lst [.int a, .int b])) := by show (M1 ++ _)[n]? = _; rw [List.getElem?_append_left n1]; exact e
    have e3 := b3.at e2 (by simp [hnk])
    have e4 : M4[n]? = some (some (.lst [.int a, .int b])) := by show (M3.set k _)[n]? = _; rw [List.getElem?_set_ne (Ne.symm hnk)]; exact e3
    exact ⟨a, b, c2.at e4 (by simp), r⟩
  obtain ⟨y8, y12, y13, M6, d1, d2, d3⟩ := goal3_ok hf a2.n4 a2.gp hm (n := n) (k := k) (s := (dF f).shown) (x5 := y5) (x6 := y6) (x7 := z7) (x8 := none) (x9 := none) (x10 := y10) (x11 := y11) (x12 := none) (x13 := none) (x14 := none) (x15 := none) hk5 hnk p5
  obtain ⟨ds, M7, e1, e2, e3⟩ := above_ok (f := f) (p := p) (x3 := some (.str (dF f).shown)) (x4 := some (.adr k)) (x5 := y5) (x6 := y6) (x7 := z7) (x8 := y8) (x9 := none) (x10 := y10) (x11 := y11) (x12 := y12) (x13 := y13) (x14 := none) (x15 := none) d3
  obtain ⟨M8, f1⟩ := more_ok hf a2.gp a2.le e2 e3 (x0 := some (.adr n)) (x3 := some (.str (dF f).shown)) (x4 := some (.adr k)) (x5 := y5) (x6 := y6) (x7 := z7) (x8 := y8) (x10 := y10) (x11 := y11) (x12 := y12) (x13 := y13) (x14 := none) (x15 := none) (M := M7)
  obtain ⟨y14, M9, g1⟩ := less_ok hf a2.gp hm a2.n4 (x0 := some (.adr n)) (x3 := some (.str (dF f).shown)) (x4 := some (.adr k)) (x5 := y5) (x6 := y6) (x7 := z7) (x8 := y8) (x9 := some (pD (up ds p))) (x10 := y10) (x11 := y11) (x12 := y12) (x13 := y13) (x14 := none) (x15 := none) (M := M8)
  refine ⟨M9, fnF_rt rfl ?_⟩
  rw [right_eq]
  refine (fSq_nx (M1 := M1) (e1 := [some (.adr n), some f.d, some (pD p), none, none, none, none, none, none, none, none, none, none, none, none, none]) (by simp [a1])).trans ?_
  refine (fSq_nx (M1 := M2) (e1 := [some (.adr n), some f.d, some (pD p), some (.str (dF f).shown), some (.adr k), none, none, none, none, none, none, none, none, none, none, none]) (by simp [rp, k, M2])).trans ?_
  refine (fSq_nx b1).trans ?_
  refine (fSq_nx (M1 := M5) (e1 := [some (.adr n), some f.d, some (pD p), some (.str (dF f).shown), some (.adr k), y5, y6, z7, none, none, y10, y11, none, none, none, none]) ?_).trans ?_
  · have : (fLck 4 key3) [some (.adr n), some f.d, some (pD p), some (.str (dF f).shown), some (.adr k), y5, y6, y7, none, none, y10, y11, none, none, none, none] M3 = key3 [some (.adr n), some f.d, some (pD p), some (.str (dF f).shown), some (.adr k), y5, y6, y7, none, none, y10, y11, none, none, none, none] M4 := by
      unfold fLck
      simp only [List.getElem?_cons_zero, List.getElem?_cons_succ, b2]
      rfl
    rw [this]; exact c1
  refine (fSq_nx d1).trans ?_
  refine (fSq_nx e1).trans ?_
  refine (fSq_nx f1).trans ?_
  refine (fSq_nx g1).trans ?_
  simp [rp]
theorem law (ns : List Int) : ∃ M', F_law [.scr ns] [] = .ok (.bl true) M' := by
  obtain ⟨M1, a1, a2⟩ := pot_ok ns []
  obtain ⟨M2, b1⟩ := right_ok a2
  exact ⟨M2, fnF_rt rfl (by have b1' : F__law_right [.adr 0] M1 = .ok (.bl true) M2 := b1; simp [B_law, a1, b1'])⟩
end Lw

set_option maxHeartbeats 0
/-! the head of law_k50_whole_places_come_within and the join (printed by join.py). -/
namespace HT
open PySem PySem.Spec PyProof.Rows L2 Dl
def looseN : List Str := (["is_integer", "is_count", "is_position", "GroundError", "InvalidFarm", "InvalidPlace", "InvalidWay", "InvalidMany", "MOST_STANDINGS", "MOST_STOCKS", "MOST_STEPS_farms", "MOST_WANT", "MOST_YIELD", "MOST_ROW", "wants_are_right"] : List Str) ++ (["step_is_right", "flaw_of", "row_is_right", "place_is_right", "check_farm", "check_place", "is_least", "added", "is_let", "led_by", "let_at", "MOST_STEPS_ways", "way_is_right", "check_way", "places_along"] : List Str) ++ (["run_places", "MOST_WITHIN", "MOST_EFFECT", "great_place_is_right", "check_both", "check_within", "next_level", "within", "is_near", "first_to", "come_within", "first_run", "_law_pot", "_law_draw", "_law_pick"] : List Str) ++ (["_law_row", "_law_is_least", "_law_tame", "_law_all_runs", "_law_right"] : List Str)
def fn : List He.DefD := [Lw.d__law_draw, Lw.d__law_row, Lw.d__law_pick, Lw.d__law_tame, Lw.d__law_is_least, Lw.d__law_all_runs, Lw.d_is_integer, Lw.d_is_count, Lw.d_wants_are_right, Lw.d_is_position, Lw.d_step_is_right, Lw.d_flaw_of, Lw.d_check_farm, Lw.d_row_is_right, Lw.d_place_is_right, Lw.d_check_place, Lw.d_check_both, Lw.d_is_least, Lw.d_is_let, Lw.d_let_at, Lw.d_added, Lw.d_led_by, Lw.d_next_level, Lw.d_is_near, Lw.d_first_to, Lw.d_great_place_is_right, Lw.d_first_run, Lw.d_check_within, Lw.d_within, Lw.d_come_within, Lw.d_way_is_right, Lw.d_check_way, Lw.d_places_along, Lw.d_run_places, Lw.d__law_right, Lw.d__law_pot, Lw.d_law]
def fa : List He.Fa := [.free "abs", .free "all", .free "any", .free "bool", .free "divmod", .free "enumerate", .free "int", .free "isinstance", .free "len", .free "max", .free "range", .free "repr", .free "reversed", .free "sorted", .free "str", .free "tuple", .free "zip", .int "MOST_EFFECT" (9), .int "MOST_ROW" (999), .int "MOST_STANDINGS" (6), .int "MOST_STEPS_farms" (12), .int "MOST_STEPS_ways" (5000), .int "MOST_STOCKS" (3), .int "MOST_WANT" (9), .int "MOST_WITHIN" (12), .int "MOST_YIELD" (99), .glo "_law_draw", .glo "_law_row", .glo "_law_pick", .glo "_law_tame", .glo "_law_is_least", .glo "_law_all_runs", .glo "is_integer", .glo "is_count", .glo "wants_are_right", .glo "is_position", .glo "step_is_right", .glo "flaw_of", .glo "check_farm", .glo "row_is_right", .glo "place_is_right", .glo "check_place", .glo "check_both", .glo "is_least", .glo "is_let", .glo "let_at", .glo "added", .glo "led_by", .glo "next_level", .glo "is_near", .glo "first_to", .glo "great_place_is_right", .glo "first_run", .glo "check_within", .glo "within", .glo "come_within", .glo "way_is_right", .glo "check_way", .glo "places_along", .glo "run_places", .glo "_law_right", .glo "_law_pot", .glo "law"]
abbrev R : PySem.W.OpenRow := PySem.W.OpenLaw.row PySem.Challenge.rw_neverspent_k50_whole_places_come_within
abbrev hk : PySem.W.Hook := He.hookD 4 fa fn
def ob (s : PySem.W.SharedT) : He.AlD := He.obsDG 4 fa fn (HandSHeadRun.getT s)
theorem ob_eq (s : PySem.W.SharedT) : ob s = hk.obs s.abs := He.obsDG_eq (HandSHeadRun.getT_eq s)
theorem run (w : World) : HandSHeadRun.RunEq R (PySem.W.view R.prog [56]) hk ob 4000 looseN w := by
  intro os
  kernel_rfl
theorem mgOf {K : PySem.W.Frag} {h : Heap} {mg : Str → Option Value} (X : K.In h) (G : h.Ns mainGlobals mg) (c : He.SaysD fa fn K) : Lw.Mg K mg where
  b_abs := He.free_ok X G (c.fact 0 rfl)
  b_all := He.free_ok X G (c.fact 1 rfl)
  b_any := He.free_ok X G (c.fact 2 rfl)
  b_bool := He.free_ok X G (c.fact 3 rfl)
  b_divmod := He.free_ok X G (c.fact 4 rfl)
  b_enumerate := He.free_ok X G (c.fact 5 rfl)
  b_int := He.free_ok X G (c.fact 6 rfl)
  b_isinstance := He.free_ok X G (c.fact 7 rfl)
  b_len := He.free_ok X G (c.fact 8 rfl)
  b_max := He.free_ok X G (c.fact 9 rfl)
  b_range := He.free_ok X G (c.fact 10 rfl)
  b_repr := He.free_ok X G (c.fact 11 rfl)
  b_reversed := He.free_ok X G (c.fact 12 rfl)
  b_sorted := He.free_ok X G (c.fact 13 rfl)
  b_str := He.free_ok X G (c.fact 14 rfl)
  b_tuple := He.free_ok X G (c.fact 15 rfl)
  b_zip := He.free_ok X G (c.fact 16 rfl)
  i_MOST_EFFECT := He.int_ok X G (c.fact 17 rfl)
  i_MOST_ROW := He.int_ok X G (c.fact 18 rfl)
  i_MOST_STANDINGS := He.int_ok X G (c.fact 19 rfl)
  i_MOST_STEPS_farms := He.int_ok X G (c.fact 20 rfl)
  i_MOST_STEPS_ways := He.int_ok X G (c.fact 21 rfl)
  i_MOST_STOCKS := He.int_ok X G (c.fact 22 rfl)
  i_MOST_WANT := He.int_ok X G (c.fact 23 rfl)
  i_MOST_WITHIN := He.int_ok X G (c.fact 24 rfl)
  i_MOST_YIELD := He.int_ok X G (c.fact 25 rfl)
  m__law_draw := He.glo_ok X G (c.fact 26 rfl)
  D__law_draw := c.def_ 0 rfl
  m__law_row := He.glo_ok X G (c.fact 27 rfl)
  D__law_row := c.def_ 1 rfl
  m__law_pick := He.glo_ok X G (c.fact 28 rfl)
  D__law_pick := c.def_ 2 rfl
  m__law_tame := He.glo_ok X G (c.fact 29 rfl)
  D__law_tame := c.def_ 3 rfl
  m__law_is_least := He.glo_ok X G (c.fact 30 rfl)
  D__law_is_least := c.def_ 4 rfl
  m__law_all_runs := He.glo_ok X G (c.fact 31 rfl)
  D__law_all_runs := c.def_ 5 rfl
  m_is_integer := He.glo_ok X G (c.fact 32 rfl)
  D_is_integer := c.def_ 6 rfl
  m_is_count := He.glo_ok X G (c.fact 33 rfl)
  D_is_count := c.def_ 7 rfl
  m_wants_are_right := He.glo_ok X G (c.fact 34 rfl)
  D_wants_are_right := c.def_ 8 rfl
  m_is_position := He.glo_ok X G (c.fact 35 rfl)
  D_is_position := c.def_ 9 rfl
  m_step_is_right := He.glo_ok X G (c.fact 36 rfl)
  D_step_is_right := c.def_ 10 rfl
  m_flaw_of := He.glo_ok X G (c.fact 37 rfl)
  D_flaw_of := c.def_ 11 rfl
  m_check_farm := He.glo_ok X G (c.fact 38 rfl)
  D_check_farm := c.def_ 12 rfl
  m_row_is_right := He.glo_ok X G (c.fact 39 rfl)
  D_row_is_right := c.def_ 13 rfl
  m_place_is_right := He.glo_ok X G (c.fact 40 rfl)
  D_place_is_right := c.def_ 14 rfl
  m_check_place := He.glo_ok X G (c.fact 41 rfl)
  D_check_place := c.def_ 15 rfl
  m_check_both := He.glo_ok X G (c.fact 42 rfl)
  D_check_both := c.def_ 16 rfl
  m_is_least := He.glo_ok X G (c.fact 43 rfl)
  D_is_least := c.def_ 17 rfl
  m_is_let := He.glo_ok X G (c.fact 44 rfl)
  D_is_let := c.def_ 18 rfl
  m_let_at := He.glo_ok X G (c.fact 45 rfl)
  D_let_at := c.def_ 19 rfl
  m_added := He.glo_ok X G (c.fact 46 rfl)
  D_added := c.def_ 20 rfl
  m_led_by := He.glo_ok X G (c.fact 47 rfl)
  D_led_by := c.def_ 21 rfl
  m_next_level := He.glo_ok X G (c.fact 48 rfl)
  D_next_level := c.def_ 22 rfl
  m_is_near := He.glo_ok X G (c.fact 49 rfl)
  D_is_near := c.def_ 23 rfl
  m_first_to := He.glo_ok X G (c.fact 50 rfl)
  D_first_to := c.def_ 24 rfl
  m_great_place_is_right := He.glo_ok X G (c.fact 51 rfl)
  D_great_place_is_right := c.def_ 25 rfl
  m_first_run := He.glo_ok X G (c.fact 52 rfl)
  D_first_run := c.def_ 26 rfl
  m_check_within := He.glo_ok X G (c.fact 53 rfl)
  D_check_within := c.def_ 27 rfl
  m_within := He.glo_ok X G (c.fact 54 rfl)
  D_within := c.def_ 28 rfl
  m_come_within := He.glo_ok X G (c.fact 55 rfl)
  D_come_within := c.def_ 29 rfl
  m_way_is_right := He.glo_ok X G (c.fact 56 rfl)
  D_way_is_right := c.def_ 30 rfl
  m_check_way := He.glo_ok X G (c.fact 57 rfl)
  D_check_way := c.def_ 31 rfl
  m_places_along := He.glo_ok X G (c.fact 58 rfl)
  D_places_along := c.def_ 32 rfl
  m_run_places := He.glo_ok X G (c.fact 59 rfl)
  D_run_places := c.def_ 33 rfl
  m__law_right := He.glo_ok X G (c.fact 60 rfl)
  D__law_right := c.def_ 34 rfl
  m__law_pot := He.glo_ok X G (c.fact 61 rfl)
  D__law_pot := c.def_ 35 rfl
  m_law := He.glo_ok X G (c.fact 62 rfl)
  D_law := c.def_ 36 rfl
theorem fnOf {P : Program} {w : World} {K : PySem.W.Frag} {mg : Str → Option Value} (M : Lw.Mg K mg) :
    ∃ fd : FuncData, (∀ (s : Shared) (u : Value), BindsTo s fd ⟨[u], []⟩ [("script", u)]) ∧ ∀ base : Heap, FnG P w K mg base 11 (He.ga K "law") fd ["script"] (spF ⟨K, P, w⟩ 1 Lw.F_law) := by
  obtain ⟨fd, FD⟩ := M.D_law
  have b := FunD.bindsA (ps := ["script"]) FD fun _ _ _ _ _ _ us hl => match us, hl with | [_], _ => rfl
  refine ⟨fd, fun s v => b s [v] rfl, fun base => ?_⟩
  obtain ⟨fd', FD', g⟩ := (Lw.ok_law (P := P) (w := w) (base := base) M).ex
  obtain ⟨oc, od, dV, kV, doc, pm, an, cdv, ct, osl, e, lk, _⟩ := FD.ex
  obtain ⟨oc', od', dV', kV', doc', pm', an', cdv', ct', osl', e', lk', _⟩ := FD'.ex
  have q : fd' = fd := by
    have := lk'.symm.trans lk
    injection this with this
    injection this with _ _ this _
    injection this
  subst q
  exact g
end HT
open PySem PySem.W PySem.Calls PyProof.Rows
theorem PySem.Challenge.cw_neverspent_k50_whole_places_come_within_holds : PySem.Challenge.rw_neverspent_k50_whole_places_come_within.Holds := by
  w_on; o_law
  refine HandSHeadRun.head_any (r := OpenLaw.row PySem.Challenge.rw_neverspent_k50_whole_places_come_within) (q := view (OpenLaw.row PySem.Challenge.rw_neverspent_k50_whole_places_come_within).prog [56]) (H := HT.hk) (ob := HT.ob) (M := 4000) (loose := HT.looseN) (d := HandSHeadRun.topDef (OpenLaw.row PySem.Challenge.rw_neverspent_k50_whole_places_come_within).prog 56) (kwd := []) HT.ob_eq
    (by kernel_rfl) (fun s => by kernel_rfl) HT.run (by kernel_rfl) (by kernel_rfl) (by kernel_rfl) (by rfl) (by first | assumption | decide +kernel) (by decide +kernel) ⟨rfl, rfl, rfl, rfl, rfl, by decide +kernel⟩ ?hw ?hc
  case hw => w_witness2
  case hc =>
    refine Dl.walk_G (l := PySem.Challenge.rw_neverspent_k50_whole_places_come_within) (n := 63) (k := 11) (x := "script") rfl (by decide) (by kernel_rfl) ⟨rfl, by decide, by decide⟩ ?F
    intro w mg fa h Y G hmg0
    obtain ⟨K, KX, c⟩ := Y
    have hmg : mg ("law" : PySem.Str) = some (.ref fa) := by
      have e : (HandSHeadRun.topDef (OpenLaw.row PySem.Challenge.rw_neverspent_k50_whole_places_come_within).prog 56).name = ("law" : PySem.Str) := by kernel_rfl
      rw [← e]
      exact hmg0
    have M := HT.mgOf KX G c
    have e := hmg.symm.trans M.m_law
    cases e
    obtain ⟨fd, hb, hF⟩ := HT.fnOf (P := (PySem.Challenge.rw_neverspent_k50_whole_places_come_within).prog) (w := w) M
    exact ⟨K, fd, _, KX, hb, fun H a ns hl hO hS => Dl.law_sp (n := 63) (fun ns _ => Lw.law ns) H a ns hl hO hS, fun base _ _ => hF base⟩
